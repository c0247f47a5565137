import PyProof.Rows.All
import Wide.All
import OpenK.AllK
import Wide.FinOn
import KE.KStateDown
import HandS.ForMost
import HandS.ForExc
import HandS.IsInst
import HandS.Defaults
import HandS.ExcValue
import HandS.ExcIs
import HandS.HeadHook1
import HandS.Wide
import HandS.SortInts
import KE.GoesMore
import HandS.Zip
import HandS.Head0
import HandS.Head1
import HandS.Head2
import HandS.HeadEnd
import HandS.HeadHook2
import HandS.Style
import HandS.WordsDict
import HandS.Deep
import HandS.SetFor
import PyProof.ReprLen
import PyProof.StrLawsRepr
import PyProof.Rows.StrJoinMade
import HandS.Strs
import HandS.ListItems
import KE.KDictZip
import KE.KItemsList
import HandS.More
import PyProof.StrOps2
import KE.KIntText
import HandS.DictComp
import HandS.Conv
import KE.LtSeq
import KE.LtData
import HandS.Text
import HandS.FStr
import HandS.Iter
import PyProof.EqKinds
import PyProof.NeKinds
import HandS.DictEq
import HandS.Flow
import HandS.NoneIn
import HandS.TryOnly
import PySem.Challenge.RW_howfarback_k43_what_follows_from_facts
set_option Elab.async false
set_option linter.all false
set_option maxRecDepth 100000
set_option maxHeartbeats 2000000
set_option autoImplicit false
namespace Q
open PySem PySem.Spec PyProof.Rows L2
abbrev Fg := PySem.W.Frag
structure FnG (P : Program) (w : World) (K : Fg) (mg : Str → Option Value) (base : Heap) (k : Nat) (f : Addr) (fd : FuncData) (ps : List Str) (sp : Sp) : Prop where
  len : ∀ vs H Q E, sp vs H Q E → vs.length = ps.length
  run : ∀ (A : Around) (outer : List Env) (s : Shared) (H : Hp) (args : Args) (us : List Value) (vs : List V) (Q : VK) (E : XK), A.guards = some [] → Room k A → Env0 P w K mg base A outer s H →
    BindsTo s fd args (ps.zip us) → Vals vs us → sp vs H Q E → codeAny (model P w) A (.call (.ref f) args) (CR (L2.CX P w) outer P w H s Q E) s
section
variable {P : Program} {w : World} {K : Fg} {mg : Str → Option Value} {base : Heap}
theorem fnG_of {k : Nat} {f : Addr} {name qual : Str} {params : Arguments} {body : List Stmt} {scope : Scope} {dV kV doc pm cdv ct oc : Value} {an od : Option Addr} {osl : Array (Option Value)} {N ps : List Str} {sp : Sp}
    (lk : K.lookup f = some ⟨oc, od, .func (PySem.W.fnOf name qual params body scope dV kV doc pm an cdv ct), osl⟩) (hcd : PySem.W.codeIn K cdv qual = true) (S : FnScope N ps scope) (len : ∀ vs H Q E, sp vs H Q E → vs.length = ps.length)
    (hbody : ∀ (A : Around) (outer : List Env) (s : Shared) (H : Hp) (vs : List V) (Q : VK) (E : XK), A.guards = some [] → Room k (A.deeper (envOfC qual scope s.heap.objs.size f cdv)) → sp vs H Q E →
      ∃ t, PSs (cxOf (L2.CX P w) P w K mg base N qual scope f cdv A outer s H E) body t ∧ t { nx := fun _ H' => Q .non H', rt := Q } (L2.start N vs) H) :
    FnG P w K mg base (k + 1) f (PySem.W.fnOf name qual params body scope dV kV doc pm an cdv ct) ps sp := by
  constructor
  · exact len
  intro A outer s H args us vs Q E hgd hr e0 hb r hsp
  have kx : K.In s.heap := e0.mod.kin.keeps fun b o e => (e0.bs b o e).1
  have kinds : ∀ y ∈ ps.zip us, scope.names.lookup y.1 = some .local ∨ (scope.names.lookup y.1 = some .cell ∧ ((cellsFrom (s.heap.objs.size + 1) scope.names []).lookup y.1).isSome = true) := by
    rintro ⟨n, v⟩ hy
    exact (S.par n (List.of_mem_zip hy).1).imp id fun q => ⟨q, PySem.W.cellsFrom_some _ _ _ (.inl q)⟩
  refine codeAny_call_function hr.depth (kx _ _ lk) rfl S.co S.gen rfl (PySem.W.codeRec_of kx hcd) (hb _ _ _ _ (wpAny_newFunctionEnv_cells S.kind kinds fun env he s1 x => ?_))
  subst he
  obtain ⟨t, ht, hq⟩ := hbody A outer s H vs Q E hgd (hr.deeper _) hsp
  refine ⟨(e0.mod.nolimit.keeps fun b o e => (e0.bs b o e).1).keeps x.toInCall.keep, codeAny_func (wpAny_mono (ht.run [] s1 (L2.start N vs) H _ (inv_start S hr.hd e0 (len _ _ _ _ hsp) r x) hq) (fun fl s' hs => ?_) fun e s' hs => hs)⟩
  cases fl with
  | brk => obtain ⟨_, _, _, q⟩ := hs; exact q.elim
  | cont => obtain ⟨_, _, _, q⟩ := hs; exact q.elim
  | next => obtain ⟨σ', H', J, q⟩ := hs; exact ⟨V.non, H', J.os, J.bare, J.base, J.hok, rfl, q⟩
  | ret u => obtain ⟨v, σ', H', J, rv, q⟩ := hs; exact ⟨v, H', J.os, J.bare, J.base, J.hok, rv, q⟩
theorem FnG.mono {j k : Nat} {f : Addr} {fd : FuncData} {ps : List Str} {sp : Sp} (F : FnG P w K mg base j f fd ps sp) (h : j ≤ k) : FnG P w K mg base k f fd ps sp :=
  ⟨F.len, fun A outer s H args us vs Q E hg hr => F.run A outer s H args us vs Q E hg (hr.mono h)⟩
end
section
variable {X : Cx} {k : Nat} {f : Addr} {fd : FuncData} {ps : List Str} {sp : Sp} {dvs : List V} {ds : List Value} {x : Str} {p pos : Pos} {e : Expr} {es : List Expr} {t : TA}
theorem runG {pins : List (Addr × Obj)} {σ : L2.St} {H : Hp} {s : Shared} {Q : VK} {us : List Value} {vs : List V} {E : XK} (F : FnG X.prog X.w X.K X.mg X.base k f fd ps sp) (hgd : X.A.guards = some []) (hr : Room k X.A) (hb : Binds X.K fd ps ds) (hd : Vals dvs ds)
    (hx : ∀ (e : Value) (s' : Shared), L2.CX X.prog X.w X.stack H s E e s' → X.xe e s') (I : Inv X pins σ H s) (r : Vals vs us) (h : sp (vs ++ dvs) H Q E) : wpAny (model X.prog X.w) X.A (call (.ref f) us) (EP X pins σ Q) X.xe s := by
  have r2 := r.append hd
  have hl : (us ++ ds).length = ps.length := r2.length.symm.trans (F.len _ _ _ _ h)
  refine wpAny_call (codeAny_mono (F.run X.A X.stack s H ⟨us, []⟩ (us ++ ds) (vs ++ dvs) Q E hgd hr I.env0 (hb s us I.kIn hl) r2 h) ?_)
  rintro (e | fl) s' hq
  · exact hx e s' hq
  · cases fl <;> first | exact I.after hq | exact False.elim hq
theorem pe_callG (F : FnG X.prog X.w X.K X.mg X.base k f fd ps sp) (hgd : X.A.guards = some []) (hr : Room k X.A) (hg : Gl X x) (hm : X.mg x = some (.ref f)) (hk : PySem.W.keepIn X.K (.ref f) = true) (hb : Binds X.K fd ps ds) (hd : Vals dvs ds)
    (ha : PA X (e :: es) t) (hdb : (x == ("__debug__" : Str)) = false) (he : starEach (e :: es) X.env = (false, eval e X.env) :: starEach es X.env) (hpl : (backTo pos (starEach es X.env)).any (·.1) = false) :
    PE X (.Call (.Name x p) (e :: es) [] pos) (tCall sp dvs E0 t) := by
  constructor
  intro pins s σ H Q I h
  exact wpAny_Call_Name_kw (ld_glob I hg hm (PySem.W.callWith_K (h₀ := X.base) I.ok.mod.kin hk (thn (ha.run pos pins s σ H _ I h) fun us s1 ⟨vs, H1, I1, r, q⟩ => ⟨I1.kIn, runG F hgd hr hb hd (fun e s' c => passL [] σ H1 s1 e s' (I1.pins_of fun _ z => nomatch z) c) I1 r q⟩) he hpl) hdb)
theorem pe_callGS {W : WX} (F : FnG X.prog X.w X.K X.mg X.base k f fd ps sp) (hgd : X.A.guards = some []) (hr : Room k X.A) (tk : Takes X W) (hg : Gl X x) (hm : X.mg x = some (.ref f)) (hk : PySem.W.keepIn X.K (.ref f) = true) (hb : Binds X.K fd ps [])
    (ha : PA X (e :: es) t) (hdb : (x == ("__debug__" : Str)) = false) (he : starEach (e :: es) X.env = (false, eval e X.env) :: starEach es X.env) (hpl : (backTo pos (starEach es X.env)).any (·.1) = false) :
    PE X (.Call (.Name x p) (e :: es) [] pos) (tCallS sp (WE W) t) := by
  constructor
  intro pins s σ H Q I h
  refine wpAny_Call_Name_kw (ld_glob I hg hm (PySem.W.callWith_K (h₀ := X.base) I.ok.mod.kin hk (thn (ha.run pos pins s σ H _ I h) fun us s1 ⟨vs, H1, I1, r, q⟩ => ⟨I1.kIn, runG (dvs := []) F hgd hr hb .nil (fun e s' c => passAt tk σ pins H1 s1 e s' I1 c) I1 r ?_⟩) he hpl) hdb)
  rw [List.append_nil]; exact q
end
theorem lawG {P : Program} {w : World} {K : Fg} {mg mb : Str → Option Value} {k : Nat} {fa a : Addr} {fd : FuncData} {x : Str} {sp : Sp} {s₁ : Shared} {vs : List Value} {ns : List Int} (KX : K.In s₁.heap) (hns : s₁.heap.Ns mainGlobals mg) (hb : s₁.heap.Ns builtinsNs mb)
    (hbb : ∀ x : Str, x ≠ "__name__" → mb x = bootBuiltins x) (hlim : s₁.heap.NoLimit) (hg : s₁.gens = #[]) (ha : s₁.heap.get? a = some { cls := .type "list", data := .seq vs.toArray }) (hi : IntsAre vs ns) (hl : ns.length ≤ sizeLine) (hr : Room k callerA)
    (F : ∀ base : Heap, K.In base → base.Ns mainGlobals mg → FnG P w K mg base k fa fd [x] sp) (hbind : ∀ (s : Shared) (u : Value), BindsTo s fd ⟨[u], []⟩ [(x, u)]) (hsp : ∀ H : Hp, Only H → SqL K H a (ns.map V.int) → sp [.ref a] H (fun v _ => v = .bl true) fun _ _ _ => False) :
    codeAny (model P w) callerA (.call (.ref fa) ⟨[.ref a], []⟩) (fun r s' => r = .ok (.ret (.bool true)) ∧ OldK s₁.heap s'.heap ∧ s'.os = s₁.os ∧ AllBare s'.gens) s₁ := by
  have main : ∀ H : Hp, Only H → SqL K H a (ns.map V.int) → HOk P w H s₁.heap → (∀ b, H b ≠ none → b = a ∧ K.lookup a = none) →
      codeAny (model P w) callerA (.call (.ref fa) ⟨[.ref a], []⟩) (fun r s' => r = .ok (.ret (.bool true)) ∧ OldK s₁.heap s'.heap ∧ s'.os = s₁.os ∧ AllBare s'.gens) s₁ := by
    intro H hO hS hok only
    have untr : ∀ {b : Addr}, b ≠ a ∨ K.lookup a ≠ none → H b = none := fun {b} h => Classical.byContradiction fun z => h.elim (fun q => q (only b z).1) fun q => q (only b z).2
    have dictNs : ∀ {b : Addr} {m : Str → Option Value}, s₁.heap.Ns b m → (hidT s₁.heap H).Ns b m := by
      rintro b m ⟨o, es, ep, e, d, r⟩
      refine ⟨o, es, ep, hidT_get e (untr (.inl fun z => ?_)), d, r⟩
      rw [z, ha] at e
      cases e
      have d' : Data.seq vs.toArray _ = Data.dict es ep := d
      cases d'
    have kb : K.In (hidT s₁.heap H) := fun b o e => hidT_get (KX b o e) (by
      by_cases z : b = a
      · exact untr (.inr (by rw [← z, e]; simp))
      · exact untr (.inl z))
    have hm : Mod K mg (hidT s₁.heap H) := ⟨kb, dictNs hns, ⟨mb, dictNs hb, hbb⟩, let ⟨mc, h1, h2⟩ := hlim; ⟨mc, dictNs h1, h2⟩⟩
    have z0 : ∀ b : Addr, b ∉ frs ([] : List Env) := fun b hz => absurd (show b ∈ ([] : List Addr) from hz) (by simp)
    have en : Env0 P w K mg (hidT s₁.heap H) callerA [] s₁ H := ⟨rfl, hm, fun b o e => of_hidT e, Nat.le_of_eq (hidT_size _ _), trivial, fun b hz => absurd hz (z0 b), hok, .of_eq hg⟩
    refine codeAny_mono ((F _ kb (dictNs hns)).run callerA [] s₁ H ⟨[.ref a], []⟩ [.ref a] [.ref a] _ _ rfl hr en (hbind s₁ (.ref a)) (.cons rfl .nil) (hsp H hO hS)) ?_
    rintro (e | fl) s' h
    · obtain ⟨_, _, _, _, _, _, _, _, _, _, _, _, z⟩ := h
      exact z.elim
    · cases fl <;> first | exact False.elim h | skip
      rename_i u
      obtain ⟨v, H', os, bare, un, hok', r', q⟩ := h
      obtain rfl : v = .bl true := q
      obtain rfl : u = Value.bool true := r'
      refine ⟨rfl, OldK.of_keep fun b o e => ?_, os, bare⟩
      rcases hO b with z | ⟨ob, xs, z⟩
      · exact un.keep b o e z (z0 b) (by simp)
      · have e1 := (hok b _ z).1
        rw [e] at e1
        cases e1
        exact (hok' b _ (un.frzs b _ _ z)).1
  have rv := vals_ints hi
  cases hk : K.lookup a with
  | some o =>
    have e := KX a o hk
    rw [ha] at e
    cases e
    exact main (fun _ => none) (fun _ => .inl rfl) (.inr ⟨_, vs.toArray, _, hk, rfl, rfl, rfl, by rw [List.size_toArray, hi.length]; exact hl, by simpa using rv⟩) (fun b u z => nomatch z) fun b z => absurd rfl z
  | none =>
    let fz : HO := .frz { cls := .type "list", data := .seq vs.toArray } (.lst (ns.map V.int))
    have at_ : ∀ b, (if b = a then some fz else none) = none ∨ (b = a ∧ (if b = a then some fz else none) = some fz) := fun b => by
      by_cases h : b = a
      · exact .inr ⟨h, if_pos h⟩
      · exact .inl (if_neg h)
    refine main (fun b => if b = a then some fz else none) (fun b => (at_ b).imp id fun z => ⟨_, _, z.2⟩) (.inl (.inr ⟨{ cls := .type "list", data := .seq vs.toArray }, if_pos rfl⟩)) (fun b u z => ?_) fun b z => ⟨((at_ b).resolve_left z).1, hk⟩
    have z : (if b = a then some fz else none) = some u := z
    rcases at_ b with q | ⟨q1, q2⟩
    · rw [q] at z; cases z
    · rw [q2] at z
      cases z
      subst q1
      exact ⟨ha, by rw [List.length_map]; exact hl, vs, _, rv, ha⟩
theorem walkG {l : PySem.W.OpenLaw} {n k : Nat} {q : Program} {loose : List Str} {XP : (Str → Option Value) → Heap → Prop} {YP : World → Heap → Prop} {d : DefRec} {x : Str} (hn : l.most = some n) (hn2 : n ≤ sizeLine) (hdf : d.params.defaults = []) (hr : Room k callerA)
    (F : ∀ (w : World) (mg : Str → Option Value) (fa : Addr) (h : Heap), YP w h → h.Ns mainGlobals mg → mg d.name = some (.ref fa) → ∃ (K : Fg) (fd : FuncData) (sp : Sp), K.In h ∧ (∀ (s : Shared) (u : Value), BindsTo s fd ⟨[u], []⟩ [(x, u)]) ∧
      (∀ (H : Hp) (a : Addr) (ns : List Int), ns.length ≤ n → Only H → SqL K H a (ns.map V.int) → sp [.ref a] H (fun v _ => v = .bl true) fun _ _ _ => False) ∧ ∀ base : Heap, K.In base → base.Ns mainGlobals mg → FnG l.prog w K mg base k fa fd [x] sp) :
    PySem.W.WalkO q loose XP YP l.row.toRowW d [] (fun f vs => PySem.call f vs) := by
  refine Att.attach_call hn hdf fun w s₀ s₁ mg mb fa o pm cd doc a vs ns G Y ho hd hcd hmg hobj hints hlen hg => ?_
  obtain ⟨K, fd, sp, KX, hb, hsp, hF⟩ := F w mg fa _ Y G.T.g hmg
  exact lawG KX G.T.g G.T.b G.T.builtins G.T.nolimit hg hobj hints (Nat.le_trans hlen hn2) hr hF hb fun H hO hS => hsp H a ns hlen hO hS
end Q
set_option Elab.async false
set_option linter.all false
set_option maxRecDepth 100000
set_option maxHeartbeats 2000000
set_option autoImplicit false
namespace Q
open PySem PySem.Spec PyProof.Rows L2
inductive D where
  | non | bl (b : Bool) | int (i : Int) | str (x : Str)
  | lst (xs : List D) | tup (xs : List D) | dct (kvs : List (Key × D))
  | scr (ns : List Int)
  | exc (nm : Str)
  | dcT (kvs : List (List Key × D))
  | obj (nm : Str) (a : Addr) (fs : List (Str × D))
  deriving Inhabited

def keptE (cls : Value) (a : Addr) : HO := .ext fun h => ∃ (oe : Obj) (vs : Array Value), h.get? a = some oe ∧ Zc cls none oe ∧ oe.data = .fields vs
structure ExcT (K : Fg) (nm : Str) : Prop where
  cl : ExcC K (He.ga K nm)
  ty : ∀ T ∈ ["int", "bool", "str", "list", "tuple", "dict"], PySem.W.kitOne K (.ref (He.ga K nm)) (.type T) = some false
structure ClT (K : Fg) (nm : Str) : Prop where
  cl : Cls K (He.ga K nm)
  ha : PySem.W.findIn K (.ref (He.ga K nm)) "__class__" = some (some (.builtin "object.__class__"))
  hn : PySem.W.specialIn K (.builtin "object.__class__") "__get__" = some (some (.builtin "getset_descriptor.__get__"))
  htk : PySem.W.takesIn K (.builtin "object.__class__") = some true
  hm : PySem.W.mroIn K (He.ga K nm) (.type "object") = some true
  ty : ∀ T ∈ ["int", "bool", "str", "list", "tuple", "dict"], PySem.W.kitOne K (.ref (He.ga K nm)) (.type T) = some false
mutual
inductive Rep (K : Fg) (S : Hp) : V → D → Prop
  | non : Rep K S .non .non
  | bl (b : Bool) : Rep K S (.bl b) (.bl b)
  | int (i : Int) : Rep K S (.int i) (.int i)
  | str (x : Str) : Rep K S (.str x) (.str x)
  | lst {a : Addr} {xs : List V} {ds : List D} : S a = some (.lst xs) → Reps K S xs ds → Rep K S (.ref a) (.lst ds)
  | scr {a : Addr} {ns : List Int} : SqL K S a (ns.map V.int) → Rep K S (.ref a) (.scr ns)
  | tup {a : Addr} {xs : List V} {ds : List D} : S a = some (.tup xs) → Reps K S xs ds → Rep K S (.ref a) (.tup ds)
  | dct {a : Addr} {kvs : List (Key × V)} {ds : List (Key × D)} : Rd S a (.dK kvs) → RepK K S kvs ds → Rep K S (.ref a) (.dct ds)
  | exc {a : Addr} {nm : Str} : S a = some (keptE (.ref (He.ga K nm)) a) → ExcT K nm → Rep K S (.ref a) (.exc nm)
  | dcT {a : Addr} {kvs : List (List Key × V)} {ds : List (List Key × D)} : S a = some (.dT kvs) → kvs.map Prod.fst = ds.map Prod.fst → Reps K S (kvs.map Prod.snd) (ds.map Prod.snd) → Rep K S (.ref a) (.dcT ds)
  | obj {a dx : Addr} {nm : Str} {vs : List (Str × V)} {fs : List (Str × D)} : S a = some (.ins (He.ga K nm) dx vs) → vs.map Prod.fst = fs.map Prod.fst → Reps K S (vs.map Prod.snd) (fs.map Prod.snd) → ClT K nm → Rep K S (.ref a) (.obj nm a fs)
inductive Reps (K : Fg) (S : Hp) : List V → List D → Prop
  | nil : Reps K S [] []
  | cons {v : V} {vs : List V} {d : D} {ds : List D} : Rep K S v d → Reps K S vs ds → Reps K S (v :: vs) (d :: ds)
inductive RepK (K : Fg) (S : Hp) : List (Key × V) → List (Key × D) → Prop
  | nil : RepK K S [] []
  | cons {k : Key} {v : V} {vs : List (Key × V)} {d : D} {ds : List (Key × D)} : Rep K S v d → RepK K S vs ds → RepK K S ((k, v) :: vs) ((k, d) :: ds)
end
theorem Same.rd {H H' : Hp} {a : Addr} {u : HO} (e : Same H H') (h : Rd H a u) : Rd H' a u := by
  rcases h with h | ⟨o, h⟩
  · exact Or.inl (e a _ h)
  · exact Or.inr ⟨o, e a _ h⟩
theorem same_upd {S : Hp} {p : Addr} {o : HO} (h : S p = none) : Same S (upd S p o) := fun b u e => by
  rw [upd_ne (ne_of_none e h)]; exact e
section
variable {K : Fg} {S S' : Hp}
mutual
theorem Rep.mono (e : Same S S') : ∀ {v : V} {d : D}, Rep K S v d → Rep K S' v d
  | _, _, .non => .non
  | _, _, .bl b => .bl b
  | _, _, .int i => .int i
  | _, _, .str x => .str x
  | _, _, .lst h r => .lst (e _ _ h) (Reps.mono e r)
  | _, _, .scr h => .scr (e.seq h)
  | _, _, .tup h r => .tup (e _ _ h) (Reps.mono e r)
  | _, _, .dct h r => .dct (Same.rd e h) (RepK.mono e r)
  | _, _, .exc h t => .exc (e _ _ h) t
  | _, _, .dcT h n r => .dcT (e _ _ h) n (Reps.mono e r)
  | _, _, .obj h n r x => .obj (e _ _ h) n (Reps.mono e r) x
theorem Reps.mono (e : Same S S') : ∀ {vs : List V} {ds : List D}, Reps K S vs ds → Reps K S' vs ds
  | _, _, .nil => .nil
  | _, _, .cons h r => .cons (Rep.mono e h) (Reps.mono e r)
theorem RepK.mono (e : Same S S') : ∀ {vs : List (Key × V)} {ds : List (Key × D)}, RepK K S vs ds → RepK K S' vs ds
  | _, _, .nil => .nil
  | _, _, .cons h r => .cons (Rep.mono e h) (RepK.mono e r)
end
theorem Reps.length : ∀ {vs : List V} {ds : List D}, Reps K S vs ds → vs.length = ds.length
  | _, _, .nil => rfl
  | _, _, .cons _ r => congrArg (· + 1) r.length
theorem Reps.get : ∀ {vs : List V} {ds : List D} {i : Nat} {d : D}, Reps K S vs ds → ds[i]? = some d → ∃ v, vs[i]? = some v ∧ Rep K S v d
  | _, _, _, _, .nil, e => by simp at e
  | _, _, 0, _, .cons h _, e => by simp at e; subst e; exact ⟨_, rfl, h⟩
  | _, _, i + 1, d, .cons _ r, e => by
    obtain ⟨v, h1, h2⟩ := Reps.get (i := i) r (by simpa using e)
    exact ⟨v, by simpa using h1, h2⟩
theorem Reps.append : ∀ {vs ws : List V} {ds es : List D}, Reps K S vs ds → Reps K S ws es → Reps K S (vs ++ ws) (ds ++ es)
  | _, _, _, _, .nil, r => r
  | _, _, _, _, .cons h t, r => .cons h (t.append r)
theorem Reps.take : ∀ {vs : List V} {ds : List D} (n : Nat), Reps K S vs ds → Reps K S (vs.take n) (ds.take n)
  | _, _, 0, _ => by simp; exact .nil
  | _, _, _ + 1, .nil => .nil
  | _, _, n + 1, .cons h r => .cons h (r.take n)
theorem Reps.drop : ∀ {vs : List V} {ds : List D} (n : Nat), Reps K S vs ds → Reps K S (vs.drop n) (ds.drop n)
  | _, _, 0, r => r
  | _, _, _ + 1, .nil => .nil
  | _, _, n + 1, .cons _ r => r.drop n
theorem Reps.set : ∀ {vs : List V} {ds : List D} (n : Nat) {v : V} {d : D}, Rep K S v d → Reps K S vs ds → Reps K S (vs.set n v) (ds.set n d)
  | _, _, _, _, _, _, .nil => .nil
  | _, _, 0, _, _, h, .cons _ r => .cons h r
  | _, _, n + 1, _, _, h, .cons q r => .cons q (r.set n h)
theorem Reps.ints : ∀ {vs : List V} {ns : List Int}, Reps K S vs (ns.map D.int) → vs = ns.map V.int
  | [], [], _ => rfl
  | [], _ :: _, h => nomatch h
  | _ :: _, [], h => nomatch h
  | v :: vs, n :: ns, .cons h r => by
    cases h
    rw [Reps.ints r]; rfl
theorem Reps.of_ints : ∀ (ns : List Int), Reps K S (ns.map V.int) (ns.map D.int)
  | [] => .nil
  | n :: ns => .cons (.int n) (Reps.of_ints ns)
theorem Reps.bls : ∀ {vs : List V} {ns : List Bool}, Reps K S vs (ns.map D.bl) → vs = ns.map V.bl
  | [], [], _ => rfl
  | [], _ :: _, h => nomatch h
  | _ :: _, [], h => nomatch h
  | v :: vs, n :: ns, .cons h r => by
    cases h
    rw [Reps.bls r]; rfl
theorem RepK.length : ∀ {vs : List (Key × V)} {ds : List (Key × D)}, RepK K S vs ds → vs.length = ds.length
  | _, _, .nil => rfl
  | _, _, .cons _ r => congrArg (· + 1) r.length
end
inductive At (K : Fg) (S H : Hp) : V → D → Prop
  | non : At K S H .non .non
  | bl (b : Bool) : At K S H (.bl b) (.bl b)
  | int (i : Int) : At K S H (.int i) (.int i)
  | str (x : Str) : At K S H (.str x) (.str x)
  | lst {a : Addr} {xs : List V} {ds : List D} : H a = some (.lst xs) → Reps K S xs ds → At K S H (.ref a) (.lst ds)
  | scr {a : Addr} {ns : List Int} : SqL K H a (ns.map V.int) → At K S H (.ref a) (.scr ns)
  | tup {a : Addr} {xs : List V} {ds : List D} : H a = some (.tup xs) → Reps K S xs ds → At K S H (.ref a) (.tup ds)
  | dct {a : Addr} {kvs : List (Key × V)} {ds : List (Key × D)} : Rd H a (.dK kvs) → RepK K S kvs ds → At K S H (.ref a) (.dct ds)
  | exc {a : Addr} {nm : Str} : H a = some (keptE (.ref (He.ga K nm)) a) → ExcT K nm → At K S H (.ref a) (.exc nm)
  | dcT {a : Addr} {kvs : List (List Key × V)} {ds : List (List Key × D)} : H a = some (.dT kvs) → kvs.map Prod.fst = ds.map Prod.fst → Reps K S (kvs.map Prod.snd) (ds.map Prod.snd) → At K S H (.ref a) (.dcT ds)
  | obj {a dx : Addr} {nm : Str} {vs : List (Str × V)} {fs : List (Str × D)} : H a = some (.ins (He.ga K nm) dx vs) → vs.map Prod.fst = fs.map Prod.fst → Reps K S (vs.map Prod.snd) (fs.map Prod.snd) → ClT K nm → At K S H (.ref a) (.obj nm a fs)
inductive OwnAt (K : Fg) (S H : Hp) (p : Addr) : D → Prop
  | lst {xs : List V} {ds : List D} : H p = some (.lst xs) → Reps K S xs ds → OwnAt K S H p (.lst ds)
  | dct {kvs : List (Key × V)} {ds : List (Key × D)} : H p = some (.dK kvs) → RepK K S kvs ds → OwnAt K S H p (.dct ds)
  | dcT {kvs : List (List Key × V)} {ds : List (List Key × D)} : H p = some (.dT kvs) → kvs.map Prod.fst = ds.map Prod.fst → Reps K S (kvs.map Prod.snd) (ds.map Prod.snd) → OwnAt K S H p (.dcT ds)
  | obj {dx : Addr} {nm : Str} {vs : List (Str × V)} {fs : List (Str × D)} : H p = some (.ins (He.ga K nm) dx vs) → vs.map Prod.fst = fs.map Prod.fst → Reps K S (vs.map Prod.snd) (fs.map Prod.snd) → ClT K nm → OwnAt K S H p (.obj nm p fs)
section
variable {K : Fg} {S S' H H' : Hp} {v : V} {d : D} {p : Addr}
theorem At.of_rep (e : Same S H) (h : Rep K S v d) : At K S H v d := by
  cases h with
  | non => exact .non
  | bl b => exact .bl b
  | int i => exact .int i
  | str x => exact .str x
  | lst h r => exact .lst (e _ _ h) r
  | scr h => exact .scr (e.seq h)
  | tup h r => exact .tup (e _ _ h) r
  | dct h r => exact .dct (Same.rd e h) r
  | exc h t => exact .exc (e _ _ h) t
  | dcT h n r => exact .dcT (e _ _ h) n r
  | obj h n r x => exact .obj (e _ _ h) n r x
theorem At.mono (e : Same S S') (e2 : Same H H') (h : At K S H v d) : At K S' H' v d := by
  cases h with
  | non => exact .non
  | bl b => exact .bl b
  | int i => exact .int i
  | str x => exact .str x
  | lst h r => exact .lst (e2 _ _ h) (r.mono e)
  | scr h => exact .scr (e2.seq h)
  | tup h r => exact .tup (e2 _ _ h) (r.mono e)
  | dct h r => exact .dct (Same.rd e2 h) (r.mono e)
  | exc h t => exact .exc (e2 _ _ h) t
  | dcT h n r => exact .dcT (e2 _ _ h) n (r.mono e)
  | obj h n r x => exact .obj (e2 _ _ h) n (r.mono e) x
theorem At.rep (h : At K S S v d) : Rep K S v d := by
  cases h with
  | scr h => exact .scr h
  | non => exact .non
  | bl b => exact .bl b
  | int i => exact .int i
  | str x => exact .str x
  | lst h r => exact .lst h r
  | tup h r => exact .tup h r
  | dct h r => exact .dct h r
  | exc h t => exact .exc h t
  | dcT h n r => exact .dcT h n r
  | obj h n r x => exact .obj h n r x
theorem OwnAt.at (h : OwnAt K S H p d) : At K S H (.ref p) d := by
  cases h with
  | lst h r => exact .lst h r
  | dct h r => exact .dct (.inl h) r
  | dcT h n r => exact .dcT h n r
  | obj h n r x => exact .obj h n r x
theorem OwnAt.mono (e : Same S S') (e2 : H' p = H p) (h : OwnAt K S H p d) : OwnAt K S' H' p d := by
  cases h with
  | lst h r => exact .lst (e2.trans h) (r.mono e)
  | dct h r => exact .dct (e2.trans h) (r.mono e)
  | dcT h n r => exact .dcT (e2.trans h) n (r.mono e)
  | obj h n r x => exact .obj (e2.trans h) n (r.mono e) x
theorem OwnAt.some (h : OwnAt K S H p d) : ∃ o, H p = some o := by
  cases h with
  | lst h r => exact ⟨_, h⟩
  | dct h r => exact ⟨_, h⟩
  | dcT h n r => exact ⟨_, h⟩
  | obj h n r x => exact ⟨_, h⟩
def scalar : D → Option V
  | .non => some .non
  | .bl b => some (.bl b)
  | .int i => some (.int i)
  | .str x => some (.str x)
  | _ => none
theorem At.scal {w : V} (h : At K S H v d) (e : scalar d = some w) : v = w := by
  cases h <;> simp [scalar] at e <;> exact e
theorem Rep.scal {w : V} (e : scalar d = some w) : Rep K S w d := by
  cases d <;> simp [scalar] at e <;> subst e <;> constructor
theorem At.scalRep {w : V} (h : At K S H v d) (e : scalar d = some w) : Rep K S' v d := by
  rw [h.scal e]; exact Rep.scal e
end
inductive Sl where
  | no | sh (d : D) | own (d : D) | bor (d : D) | bag (n : Nat)
abbrev En := List Sl
structure Gd where
  ok : List D → Prop
  cnt : List D → Nat
structure Cg where
  K : Fg
  mg : Str → Option Value
  g : Gd
  N : Nat
def BagAt (c : Cg) (S H : Hp) (p : Addr) (n : Nat) : Prop := ∃ xs ds, H p = some (.lst xs) ∧ Reps c.K S xs ds ∧ c.g.ok ds ∧ c.g.cnt ds + n ≤ c.N ∧ c.N ≤ 2 ^ 60
theorem BagAt.mono {c : Cg} {S S' H H' : Hp} {p : Addr} {n m : Nat} (h : BagAt c S H p n) (e : Same S S') (e2 : H' p = H p) (hm : m ≤ n) : BagAt c S' H' p m := by
  obtain ⟨xs, ds, h1, h2, h3, h4, h5⟩ := h
  exact ⟨xs, ds, e2.trans h1, h2.mono e, h3, by omega, h5⟩
def bw : Sl → Nat
  | .bag n => n
  | _ => 0
def bud : En → Nat
  | [] => 0
  | s :: r => bw s + bud r
theorem bud_set : ∀ (env : En) (i : Nat) (s s' : Sl), env[i]? = some s' → bud (env.set i s) + bw s' = bud env + bw s
  | [], i, s, s', h => by simp at h
  | a :: r, 0, s, s', h => by
    simp at h; subst h
    show bw s + bud r + bw a = bw a + bud r + bw s
    omega
  | a :: r, i + 1, s, s', h => by
    have := bud_set r i s s' (by simpa using h)
    show bw a + bud (r.set i s) + bw s' = bw a + bud r + bw s
    omega
theorem bud_le : ∀ (env : En) (i : Nat) (s : Sl), bw s = 0 → bud (env.set i s) ≤ bud env
  | [], i, s, h => by simp
  | a :: r, 0, s, h => by
    show bw s + bud r ≤ bw a + bud r
    omega
  | a :: r, i + 1, s, h => by
    have := bud_le r i s h
    show bw a + bud (r.set i s) ≤ bw a + bud r
    omega
def SlOk (K : Fg) (F P S H : Hp) (b : Option Addr) : Sl → Option V → Prop
  | .no, _ => True
  | .sh d, some v => Rep K S v d
  | .bor d, some v => At K S F v d
  | .own d, some v => ∃ p, v = .ref p ∧ P p = none ∧ S p = none ∧ b ≠ some p ∧ OwnAt K S H p d
  | .bag _, some v => ∃ p, b = some p ∧ v = .ref p
  | _, none => False
structure Rel (c : Cg) (F P S : Hp) (b : Option Addr) (σ : L2.St) (H : Hp) (env : En) : Prop where
  len : env.length = σ.length
  fp : Same F P
  ph : Same P H
  sh : Same S H
  bg : ∀ p, b = some p → P p = none ∧ S p = none ∧ BagAt c S H p (bud env)
  sl : ∀ (i : Nat) (s : Sl) (v : Option V), env[i]? = some s → σ[i]? = some v → SlOk c.K F P S H b s v
  ap : ∀ (i j : Nat) (p : Addr) (d d' : D), i ≠ j → σ[i]? = some (some (.ref p)) → env[i]? = some (.own d) → σ[j]? = some (some (.ref p)) → env[j]? = some (.own d') → False
def Ext (P S S' : Hp) : Prop := Same S S' ∧ ∀ a, S a = none → P a ≠ none → S' a = none
theorem Ext.refl {P S : Hp} : Ext P S S := ⟨Same.refl S, fun _ h _ => h⟩
theorem Ext.trans {P S S' S2 : Hp} (a : Ext P S S') (b : Ext P S' S2) : Ext P S S2 := ⟨a.1.trans b.1, fun x h1 h2 => b.2 x (a.2 x h1 h2) h2⟩
inductive Va where
  | d (d : D) | ptr (i : Nat) | bag (i : Nat)
def RV (K : Fg) (S : Hp) (σ : L2.St) (b : Option Addr) (v : V) : Va → Prop
  | .d d => Rep K S v d
  | .ptr i => σ[i]? = some (some v)
  | .bag i => σ[i]? = some (some v)
theorem RV.mono {K : Fg} {S S' : Hp} {σ : L2.St} {b : Option Addr} {v : V} {x : Va} (h : RV K S σ b v x) (e : Same S S') : RV K S' σ b v x := by
  cases x with
  | d d => exact Rep.mono e h
  | ptr i => exact h
  | bag i => exact h
inductive Rv where
  | sh (d : D) | own (d : D)
def Rv.dat : Rv → D
  | .sh d => d
  | .own d => d
def RvOk (K : Fg) (P S : Hp) (b : Option Addr) (H : Hp) (v : V) : Rv → Prop
  | .sh d => Rep K S v d
  | .own d => ∃ p, v = .ref p ∧ P p = none ∧ S p = none ∧ b ≠ some p ∧ OwnAt K S H p d
def slotD : Sl → Option D
  | .sh d => some d
  | .own d => some d
  | .bor d => some d
  | _ => none
def res (env : En) : Va → Option D
  | .d d => some d
  | .ptr i => (env[i]?).bind slotD
  | .bag _ => none

section
variable {c : Cg} {F P S S' H H' : Hp} {b : Option Addr} {σ : L2.St} {env : En} {v : V} {x : Va} {d : D} {i : Nat} {p : Addr} {o : HO}
theorem Rel.fh (R : Rel c F P S b σ H env) : Same F H := R.fp.trans R.ph
theorem Rel.slot (R : Rel c F P S b σ H env) {s : Sl} (h : env[i]? = some s) : ∃ v, σ[i]? = some v ∧ SlOk c.K F P S H b s v := by
  have hi : i < σ.length := by rw [← R.len]; exact (List.getElem?_eq_some_iff.mp h).1
  exact ⟨σ[i], List.getElem?_eq_getElem hi, R.sl i s _ h (List.getElem?_eq_getElem hi)⟩
theorem SlOk.at (R : Rel c F P S b σ H env) {s : Sl} (h : SlOk c.K F P S H b s (some v)) (e : slotD s = some d) : At c.K S H v d := by
  cases s with
  | no => cases e
  | bag _ => cases e
  | sh d' => cases e; exact .of_rep R.sh h
  | bor d' => cases e; exact At.mono (Same.refl _) R.fh h
  | own d' =>
    cases e
    obtain ⟨p, rfl, _, _, _, h⟩ := h
    exact h.at
theorem Rel.read (R : Rel c F P S b σ H env) (r : RV c.K S σ b v x) (e : res env x = some d) : At c.K S H v d := by
  cases x with
  | d d' => cases e; exact .of_rep R.sh r
  | bag _ => cases e
  | ptr i =>
    have r' : σ[i]? = some (some v) := r
    have e : (env[i]?).bind slotD = some d := e
    cases h : env[i]? with
    | none => rw [h] at e; cases e
    | some s =>
      rw [h] at e
      exact SlOk.at R (R.sl i s _ h r') e
theorem Rel.to (R : Rel c F P S b σ H env) (hS : Same S S') (hP : Same P H') (hSH : Same S' H') (own : ∀ (i : Nat) (p : Addr) (d : D), σ[i]? = some (some (.ref p)) → env[i]? = some (.own d) → S' p = none ∧ H' p = H p)
    (bag : ∀ p, b = some p → S' p = none ∧ BagAt c S' H' p (bud env)) : Rel c F P S' b σ H' env := by
  refine ⟨R.len, R.fp, hP, hSH, fun p e => ?_, fun i s v h1 h2 => ?_, R.ap⟩
  · obtain ⟨h1, h2, h3⟩ := R.bg p e
    obtain ⟨h4, h5⟩ := bag p e
    exact ⟨h1, h4, h5⟩
  · have h := R.sl i s v h1 h2
    cases s with
    | no => trivial
    | sh d =>
      cases v with
      | none => exact h
      | some v => exact Rep.mono hS h
    | bor d =>
      cases v with
      | none => exact h
      | some v => exact At.mono hS (Same.refl _) h
    | bag _ => cases v <;> exact h
    | own d =>
      cases v with
      | none => exact h
      | some v =>
        obtain ⟨p, rfl, h3, h4, h5, h6⟩ := h
        obtain ⟨h7, h8⟩ := own i p d h2 h1
        exact ⟨p, rfl, h3, h7, h5, h6.mono hS h8⟩
theorem Rel.ownAt (R : Rel c F P S b σ H env) (h1 : σ[i]? = some (some (.ref p))) (h2 : env[i]? = some (.own d)) : P p = none ∧ S p = none ∧ b ≠ some p ∧ OwnAt c.K S H p d := by
  obtain ⟨q, e, h⟩ := R.sl i _ _ h2 h1
  cases e
  exact h
theorem BagAt.some {n : Nat} (h : BagAt c S H p n) : ∃ o, H p = some o := by
  obtain ⟨xs, ds, h1, _⟩ := h
  exact ⟨_, h1⟩
theorem Rel.alloc (R : Rel c F P S b σ H env) (hp : H p = none) : Rel c F P S b σ (upd H p o) env := by
  have e := same_upd (o := o) hp
  refine R.to (Same.refl _) (R.ph.trans e) (R.sh.trans e) (fun i q d h1 h2 => ?_) fun q h => ?_
  · obtain ⟨_, h4, _, h6⟩ := R.ownAt h1 h2
    obtain ⟨o, h7⟩ := h6.some
    exact ⟨h4, upd_ne (ne_of_none h7 hp)⟩
  · obtain ⟨_, h2, h3⟩ := R.bg q h
    obtain ⟨o, h7⟩ := h3.some
    exact ⟨h2, h3.mono (Same.refl _) (upd_ne (ne_of_none h7 hp)) (Nat.le_refl _)⟩
theorem Rel.new (R : Rel c F P S b σ H env) (hp : H p = none) : P p = none ∧ S p = none ∧ b ≠ some p := by
  refine ⟨R.ph.free hp, R.sh.free hp, fun e => ?_⟩
  obtain ⟨_, _, h3⟩ := R.bg p e
  obtain ⟨o, h7⟩ := h3.some
  rw [hp] at h7
  cases h7
theorem Rel.allocSh (R : Rel c F P S b σ H env) (hp : H p = none) : Rel c F P (upd S p o) b σ (upd H p o) env := by
  have hs := (R.new hp).2.1
  refine R.to (same_upd hs) (R.ph.trans (same_upd hp)) (fun a u e => ?_) (fun i q d h1 h2 => ?_) fun q h => ?_
  · by_cases h : a = p
    · subst h; rw [upd_same] at e ⊢; exact e
    · rw [upd_ne h] at e ⊢; exact R.sh a u e
  · obtain ⟨_, h4, _, h6⟩ := R.ownAt h1 h2
    obtain ⟨o, h7⟩ := h6.some
    have ne := ne_of_none h7 hp
    exact ⟨by rw [upd_ne ne]; exact h4, upd_ne ne⟩
  · obtain ⟨_, h2, h3⟩ := R.bg q h
    obtain ⟨o, h7⟩ := h3.some
    have ne := ne_of_none h7 hp
    exact ⟨by rw [upd_ne ne]; exact h2, h3.mono (same_upd hs) (upd_ne ne) (Nat.le_refl _)⟩
theorem Ext.alloc (hp : P p = none) (hs : S p = none) : Ext P S (upd S p o) := ⟨same_upd hs, fun a h1 h2 => by
  rw [upd_ne (fun e => h2 (by rw [e]; exact hp))]; exact h1⟩
theorem Rel.share (R : Rel c F P S b σ H env) (hp : P p = none) (hs : S p = none) (hb : b ≠ some p) (ho : H p = some o) (hn : ∀ (i : Nat) (d : D), σ[i]? = some (some (.ref p)) → env[i]? ≠ some (.own d)) : Rel c F P (upd S p o) b σ H env := by
  refine R.to (same_upd hs) R.ph (fun a u e => ?_) (fun i q d h1 h2 => ?_) fun q h => ?_
  · by_cases h : a = p
    · subst h; rw [upd_same] at e; cases e; exact ho
    · rw [upd_ne h] at e; exact R.sh a u e
  · obtain ⟨_, h4, _, h6⟩ := R.ownAt h1 h2
    have ne : q ≠ p := fun e => hn i d (e ▸ h1) h2
    exact ⟨by rw [upd_ne ne]; exact h4, rfl⟩
  · obtain ⟨_, h2, h3⟩ := R.bg q h
    have ne : q ≠ p := fun e => hb (e ▸ h)
    exact ⟨by rw [upd_ne ne]; exact h2, h3.mono (same_upd hs) rfl (Nat.le_refl _)⟩
theorem OwnAt.rep {S0 : Hp} (h : OwnAt c.K S H p d) (ho : H p = Option.some o) (hs : S p = none) : Rep c.K (upd S p o) (.ref p) d := by
  cases h with
  | lst h r =>
    rw [h] at ho; cases ho
    exact .lst upd_same (r.mono (same_upd hs))
  | dct h r =>
    rw [h] at ho; cases ho
    exact .dct (.inl upd_same) (r.mono (same_upd hs))
  | dcT h n r =>
    rw [h] at ho; cases ho
    exact .dcT upd_same n (r.mono (same_upd hs))
  | obj h n r x =>
    rw [h] at ho; cases ho
    exact .obj upd_same n (r.mono (same_upd hs)) x
theorem getElem?_set' {α : Type} {l : List α} {i j : Nat} {a x : α} (h : (l.set i a)[j]? = some x) : (j = i ∧ x = a ∧ i < l.length) ∨ (j ≠ i ∧ l[j]? = some x) := by
  by_cases e : j = i
  · subst e
    by_cases hl : j < l.length
    · rw [List.getElem?_set_self hl] at h
      exact .inl ⟨rfl, (Option.some.inj h).symm, hl⟩
    · rw [List.getElem?_eq_none (by simpa using hl)] at h
      cases h
  · rw [List.getElem?_set_ne (fun z => e z.symm)] at h
    exact .inr ⟨e, h⟩
theorem Rel.put (R : Rel c F P S b σ H env) {s : Sl} (h : SlOk c.K F P S H b s (some v)) (hn : ∀ d, s ≠ .own d) (hb : bw s = 0) : Rel c F P S b (σ.set i (some v)) H (env.set i s) := by
  refine ⟨by rw [List.length_set, List.length_set]; exact R.len, R.fp, R.ph, R.sh, fun p e => ⟨(R.bg p e).1, (R.bg p e).2.1, (R.bg p e).2.2.mono (Same.refl _) rfl (bud_le env i s hb)⟩, fun j s' v' h1 h2 => ?_, fun j k q d d' hjk h1 h2 h3 h4 => ?_⟩
  · rcases getElem?_set' h1 with ⟨e, e2, _⟩ | ⟨e, e2⟩
    · rcases getElem?_set' h2 with ⟨_, e4, _⟩ | ⟨e4, _⟩
      · subst e2; subst e4; exact h
      · exact absurd e e4
    · rcases getElem?_set' h2 with ⟨e4, _, _⟩ | ⟨_, e4⟩
      · exact absurd e4 e
      · exact R.sl j s' v' e2 e4
  · rcases getElem?_set' h2 with ⟨_, e2, _⟩ | ⟨e, e2⟩
    · exact hn d e2.symm
    · rcases getElem?_set' h4 with ⟨_, e4, _⟩ | ⟨e', e4⟩
      · exact hn d' e4.symm
      · rw [List.getElem?_set_ne (fun z => e z.symm)] at h1
        rw [List.getElem?_set_ne (fun z => e' z.symm)] at h3
        exact R.ap j k q d d' hjk h1 e2 h3 e4
theorem Rel.putSh (R : Rel c F P S b σ H env) (h : Rep c.K S v d) : Rel c F P S b (σ.set i (some v)) H (env.set i (.sh d)) := R.put h (fun _ => by simp) rfl
theorem Rel.putOwn (R : Rel c F P S b σ H env) (hp : P p = none) (hs : S p = none) (hb : b ≠ some p) (ho : OwnAt c.K S H p d) (hn : ∀ (i : Nat) (d : D), σ[i]? = some (some (.ref p)) → env[i]? ≠ some (.own d)) :
    Rel c F P S b (σ.set i (some (.ref p))) H (env.set i (.own d)) := by
  refine ⟨by rw [List.length_set, List.length_set]; exact R.len, R.fp, R.ph, R.sh, fun p e => ⟨(R.bg p e).1, (R.bg p e).2.1, (R.bg p e).2.2.mono (Same.refl _) rfl (bud_le env i _ rfl)⟩, fun j s' v' h1 h2 => ?_, fun j k q e e' hjk h1 h2 h3 h4 => ?_⟩
  · rcases getElem?_set' h1 with ⟨e, e2, _⟩ | ⟨e, e2⟩
    · rcases getElem?_set' h2 with ⟨_, e4, _⟩ | ⟨e4, _⟩
      · subst e2; subst e4; exact ⟨p, rfl, hp, hs, hb, ho⟩
      · exact absurd e e4
    · rcases getElem?_set' h2 with ⟨e4, _, _⟩ | ⟨_, e4⟩
      · exact absurd e4 e
      · exact R.sl j s' v' e2 e4
  · rcases getElem?_set' h2 with ⟨ej, _, _⟩ | ⟨ej, e2⟩
    · rcases getElem?_set' h4 with ⟨ek, _, _⟩ | ⟨ek, e4⟩
      · exact hjk (ej.trans ek.symm)
      · rcases getElem?_set' h1 with ⟨_, z, _⟩ | ⟨z, _⟩
        · rw [List.getElem?_set_ne (fun z => ek z.symm)] at h3
          cases z
          exact hn k e' h3 e4
        · exact z ej
    · rcases getElem?_set' h4 with ⟨ek, _, _⟩ | ⟨ek, e4⟩
      · rcases getElem?_set' h3 with ⟨_, z, _⟩ | ⟨z, _⟩
        · rw [List.getElem?_set_ne (fun z => ej z.symm)] at h1
          cases z
          exact hn j e h1 e2
        · exact z ek
      · rw [List.getElem?_set_ne (fun z => ej z.symm)] at h1
        rw [List.getElem?_set_ne (fun z => ek z.symm)] at h3
        exact R.ap j k q e e' hjk h1 e2 h3 e4
theorem Rel.notOwn (R : Rel c F P S b σ H env) (hp : H p = none) : ∀ (i : Nat) (d : D), σ[i]? = some (some (.ref p)) → env[i]? ≠ some (.own d) := fun i d h1 h2 => by
  obtain ⟨_, _, _, h6⟩ := R.ownAt h1 h2
  obtain ⟨o, h7⟩ := h6.some
  rw [hp] at h7; cases h7
theorem Rel.freeze (R : Rel c F P S b σ H env) (h1 : σ[i]? = some (some (.ref p))) (h2 : env[i]? = some (.own d)) (ho : H p = some o) : Rel c F P (upd S p o) b σ H (env.set i (.sh d)) := by
  obtain ⟨hP, hS, hB, hO⟩ := R.ownAt h1 h2
  have sm := same_upd (o := o) hS
  refine ⟨by rw [List.length_set]; exact R.len, R.fp, R.ph, fun a u e => ?_, fun q e => ?_, fun j s' v' h3 h4 => ?_, fun j k q e e' hjk g1 g2 g3 g4 => ?_⟩
  · by_cases h : a = p
    · subst h; rw [upd_same] at e; cases e; exact ho
    · rw [upd_ne h] at e; exact R.sh a u e
  · obtain ⟨a1, a2, a3⟩ := R.bg q e
    have ne : q ≠ p := fun z => hB (z ▸ e)
    exact ⟨a1, by rw [upd_ne ne]; exact a2, a3.mono sm rfl (bud_le env i _ rfl)⟩
  · rcases getElem?_set' h3 with ⟨e, e2, _⟩ | ⟨e, e2⟩
    · subst e; subst e2
      rw [h1] at h4; cases h4
      exact hO.rep (S0 := S) ho hS
    · have h := R.sl j s' v' e2 h4
      cases s' with
      | no => trivial
      | sh d =>
        cases v' with
        | none => exact h
        | some v => exact Rep.mono sm h
      | bor d =>
        cases v' with
        | none => exact h
        | some v => exact At.mono sm (Same.refl _) h
      | bag _ => cases v' <;> exact h
      | own d' =>
        cases v' with
        | none => exact h
        | some v =>
          obtain ⟨q, rfl, h5, h6, h7, h8⟩ := h
          have ne : q ≠ p := fun z => R.ap j i p d' d e (z ▸ h4) e2 h1 h2
          exact ⟨q, rfl, h5, by rw [upd_ne ne]; exact h6, h7, h8.mono sm rfl⟩
  · rcases getElem?_set' g2 with ⟨_, z, _⟩ | ⟨_, z⟩
    · cases z
    · rcases getElem?_set' g4 with ⟨_, z', _⟩ | ⟨_, z'⟩
      · cases z'
      · exact R.ap j k q e e' hjk g1 z g3 z'
theorem Rel.write (R : Rel c F P S b σ H env) {d' : D} (h1 : σ[i]? = some (some (.ref p))) (h2 : env[i]? = some (.own d)) (hn : OwnAt c.K S (upd H p o) p d') : Rel c F P S b σ (upd H p o) (env.set i (.own d')) := by
  obtain ⟨hP, hS, hB, hO⟩ := R.ownAt h1 h2
  have out : ∀ {X : Hp}, X p = none → Same X H → Same X (upd H p o) := fun {X} hx hs a u e => by
    rw [upd_ne (ne_of_none e hx)]; exact hs a u e
  refine ⟨by rw [List.length_set]; exact R.len, R.fp, out hP R.ph, out hS R.sh, fun q e => ?_, fun j s' v' h3 h4 => ?_, fun j k q e e' hjk g1 g2 g3 g4 => ?_⟩
  · obtain ⟨a1, a2, a3⟩ := R.bg q e
    have ne : q ≠ p := fun z => hB (z ▸ e)
    exact ⟨a1, a2, a3.mono (Same.refl _) (upd_ne ne) (bud_le env i _ rfl)⟩
  · rcases getElem?_set' h3 with ⟨e, e2, _⟩ | ⟨e, e2⟩
    · subst e; subst e2
      rw [h1] at h4; cases h4
      exact ⟨p, rfl, hP, hS, hB, hn⟩
    · have h := R.sl j s' v' e2 h4
      cases s' with
      | no => trivial
      | sh d => cases v' <;> exact h
      | bor d => cases v' <;> exact h
      | bag _ => cases v' <;> exact h
      | own d' =>
        cases v' with
        | none => exact h
        | some v =>
          obtain ⟨q, rfl, h5, h6, h7, h8⟩ := h
          have ne : q ≠ p := fun z => R.ap j i p d' d e (z ▸ h4) e2 h1 h2
          exact ⟨q, rfl, h5, h6, h7, h8.mono (Same.refl _) (upd_ne ne)⟩
  · have dd : ∀ (m : Nat) (e : D), (env.set i (Sl.own d'))[m]? = some (Sl.own e) → ∃ e', env[m]? = some (Sl.own e') := fun m e h => by
      rcases getElem?_set' h with ⟨z, _, _⟩ | ⟨_, z⟩
      · exact ⟨d, z ▸ h2⟩
      · exact ⟨e, z⟩
    obtain ⟨y1, w1⟩ := dd j e g2
    obtain ⟨y2, w2⟩ := dd k e' g4
    exact R.ap j k q y1 y2 hjk g1 w1 g3 w2
theorem Rel.guard (R : Rel c F P S b σ H env) {D' : Addr} (hp : P D' = none) (ho : H D' = some o) (hs : S D' = none) (hb : b ≠ some D') (hn : ∀ (i : Nat) (d : D), σ[i]? = some (some (.ref D')) → env[i]? ≠ some (.own d)) : Rel c F (upd P D' o) S b σ H env := by
  refine ⟨R.len, R.fp.trans (same_upd hp), fun a u e => ?_, R.sh, fun q e => ?_, fun j s' v' h3 h4 => ?_, R.ap⟩
  · by_cases h : a = D'
    · subst h; rw [upd_same] at e; cases e; exact ho
    · rw [upd_ne h] at e; exact R.ph a u e
  · obtain ⟨a1, a2, a3⟩ := R.bg q e
    have ne : q ≠ D' := fun z => hb (z ▸ e)
    exact ⟨by rw [upd_ne ne]; exact a1, a2, a3⟩
  · have h := R.sl j s' v' h3 h4
    cases s' with
    | no => trivial
    | sh d => cases v' <;> exact h
    | bor d => cases v' <;> exact h
    | bag _ => cases v' <;> exact h
    | own d' =>
      cases v' with
      | none => exact h
      | some v =>
        obtain ⟨q, rfl, h5, h6, h7, h8⟩ := h
        have ne : q ≠ D' := fun z => hn j d' (z ▸ h4) h3
        exact ⟨q, rfl, by rw [upd_ne ne]; exact h5, h6, h7, h8⟩
theorem Rel.unguard (R : Rel c F (upd P p o) S b σ H env) (hp : P p = none) (hf : Same F P) : Rel c F P S b σ H env := by
  have un : ∀ q, upd P p o q = none → P q = none := fun q h => (same_upd hp).free h
  refine ⟨R.len, hf, (same_upd hp).trans R.ph, R.sh, fun q e => ?_, fun j s' v' h3 h4 => ?_, R.ap⟩
  · obtain ⟨a1, a2, a3⟩ := R.bg q e
    exact ⟨un q a1, a2, a3⟩
  · have h := R.sl j s' v' h3 h4
    cases s' with
    | no => trivial
    | sh d => cases v' <;> exact h
    | bor d => cases v' <;> exact h
    | bag _ => cases v' <;> exact h
    | own d' =>
      cases v' with
      | none => exact h
      | some v =>
        obtain ⟨q, rfl, h5, h6, h7, h8⟩ := h
        exact ⟨q, rfl, un q h5, h6, h7, h8⟩
end
end Q
set_option Elab.async false
set_option linter.all false
set_option maxRecDepth 100000
set_option maxHeartbeats 2000000
set_option autoImplicit false
namespace Q
open PySem PySem.Spec PyProof.Rows L2
abbrev XQ := Str → List D → En → Prop
abbrev TEq := En → (Va → En → Prop) → XQ → Prop
abbrev TNq := En → (Rv → En → Prop) → XQ → Prop
abbrev TTq := En → (Bool → En → Prop) → XQ → Prop
abbrev TAq := En → (List Va → En → Prop) → XQ → Prop
abbrev cg (X : Cx) (g : Gd) (N : Nat) : Cg := ⟨X.K, X.mg, g, N⟩
def PayOk (K : Fg) (S H : Hp) (d : Option Addr) : List D → Prop
  | [] => d = none
  | v :: _ => ∃ dd w, d = some dd ∧ H dd = some (.xd [(("index" : Str), w)]) ∧ Rep K S w v
def XOk (c : Cg) (F P : Hp) (b : Option Addr) (W : WX) (S : Hp) (x : XQ) : Prop :=
  ∀ (nm : Str) (pay : List D) (env' : En) (S' : Hp) (σ' : L2.St) (H' : Hp) (C : Addr) (d : Option Addr), Rel c F P S' b σ' H' env' → Ext P S S' → x nm pay env' → c.mg nm = some (.ref C) → PayOk c.K S' H' d pay → W (.ref C) d σ' H'
theorem XOk.mono {c : Cg} {F P S S' : Hp} {b : Option Addr} {W : WX} {x : XQ} (h : XOk c F P b W S x) (e : Ext P S S') : XOk c F P b W S' x :=
  fun nm pay env' S2 σ' H' C d R e2 => h nm pay env' S2 σ' H' C d R (e.trans e2)
theorem XOk.no {c : Cg} {F P S : Hp} {b : Option Addr} {W : WX} : XOk c F P b W S (fun _ _ _ => False) := fun _ _ _ _ _ _ _ _ _ _ h => h.elim
def Sm (c : Cg) (W : WX) (t : TE) (q : TEq) : Prop := ∀ (F P S : Hp) (b : Option Addr) (σ : L2.St) (H : Hp) (env : En) (k : Va → En → Prop) (x : XQ) (Q : VK), Rel c F P S b σ H env → q env k x → XOk c F P b W S x →
  (∀ (S' H' : Hp) (env' : En) (v : V) (y : Va), Rel c F P S' b σ H' env' → Ext P S S' → RV c.K S' σ b v y → k y env' → Q v H') → t σ H Q
def SmN (c : Cg) (W : WX) (t : TE) (q : TNq) : Prop := ∀ (F P S : Hp) (b : Option Addr) (σ : L2.St) (H : Hp) (env : En) (k : Rv → En → Prop) (x : XQ) (Q : VK), Rel c F P S b σ H env → q env k x → XOk c F P b W S x →
  (∀ (S' H' : Hp) (env' : En) (v : V) (y : Rv), Rel c F P S' b σ H' env' → Ext P S S' → RvOk c.K P S' b H' v y → (∀ d, y = .own d → ∀ (i : Nat) (e : D) (p : Addr), v = .ref p → σ[i]? = some (some (.ref p)) → env'[i]? ≠ some (.own e)) → k y env' → Q v H') → t σ H Q
def SmT (c : Cg) (W : WX) (t : TT) (q : TTq) : Prop := ∀ (F P S : Hp) (b : Option Addr) (σ : L2.St) (H : Hp) (env : En) (k : Bool → En → Prop) (x : XQ) (Q : Bool → Hp → Prop), Rel c F P S b σ H env → q env k x → XOk c F P b W S x →
  (∀ (S' H' : Hp) (env' : En) (y : Bool), Rel c F P S' b σ H' env' → Ext P S S' → k y env' → Q y H') → t σ H Q
inductive RVs (K : Fg) (S : Hp) (σ : L2.St) (b : Option Addr) : List V → List Va → Prop
  | nil : RVs K S σ b [] []
  | cons {v : V} {vs : List V} {y : Va} {ys : List Va} : RV K S σ b v y → RVs K S σ b vs ys → RVs K S σ b (v :: vs) (y :: ys)
theorem RVs.mono {K : Fg} {S S' : Hp} {σ : L2.St} {b : Option Addr} (e : Same S S') : ∀ {vs : List V} {ys : List Va}, RVs K S σ b vs ys → RVs K S' σ b vs ys
  | _, _, .nil => .nil
  | _, _, .cons r rs => .cons (r.mono e) (rs.mono e)
def SmA (c : Cg) (W : WX) (t : TA) (q : TAq) : Prop := ∀ (F P S : Hp) (b : Option Addr) (σ : L2.St) (H : Hp) (env : En) (k : List Va → En → Prop) (x : XQ) (Q : List V → Hp → Prop), Rel c F P S b σ H env → q env k x → XOk c F P b W S x →
  (∀ (S' H' : Hp) (env' : En) (vs : List V) (ys : List Va), Rel c F P S' b σ H' env' → Ext P S S' → RVs c.K S' σ b vs ys → k ys env' → Q vs H') → t σ H Q
structure QE (X : Cx) (g : Gd) (W : WX) (e : Expr) (t : TE) (q : TEq) : Prop where
  pe : PE X e t
  sm : ∀ N, Sm (cg X g N) W t q
structure QN (X : Cx) (g : Gd) (W : WX) (e : Expr) (t : TE) (q : TNq) : Prop where
  pe : PE X e t
  sm : ∀ N, SmN (cg X g N) W t q
structure QT (X : Cx) (g : Gd) (W : WX) (e : Expr) (t : TT) (q : TTq) : Prop where
  pt : PT X e t
  sm : ∀ N, SmT (cg X g N) W t q
structure QW (X : Cx) (g : Gd) (W : WX) (e : Expr) (t : TT) (q : TTq) : Prop where
  pw : PW X e t
  sm : ∀ N, SmT (cg X g N) W t q
structure QA (X : Cx) (g : Gd) (W : WX) (es : List Expr) (t : TA) (q : TAq) : Prop where
  pa : PA X es t
  sm : ∀ N, SmA (cg X g N) W t q
section
variable {X : Cx} {g : Gd} {W : WX} {e a b : Expr} {es : List Expr} {t ta tb : TE} {tt u : TT} {tl tr : TA} {q qa qb : TEq} {qt qu : TTq} {ql : TAq} {pos : Pos} {c : Cg}
def qSlot (i : Nat) (env : En) (k : Va → En → Prop) : Sl → Prop
  | .sh d => k (.d d) env
  | .own _ => k (.ptr i) env
  | .bor _ => k (.ptr i) env
  | .bag _ => k (.bag i) env
  | .no => False
def qVar (i : Nat) : TEq := fun env k _ => match env[i]? with
  | some s => qSlot i env k s
  | none => False
theorem sm_var (i : Nat) : Sm c W (tVar i) (qVar i) := by
  intro F P S b σ H env k x Q R h _ hk
  unfold qVar at h
  cases e : env[i]? with
  | none => rw [e] at h; exact h.elim
  | some s =>
    rw [e] at h
    obtain ⟨v, hv, hs⟩ := R.slot e
    cases v with
    | none => cases s <;> first | exact hs.elim | exact h.elim
    | some v =>
      refine ⟨v, hv, ?_⟩
      cases s with
      | no => exact h.elim
      | sh d => exact hk S H env v _ R Ext.refl (show RV c.K S σ b v (.d d) from hs) h
      | own d => exact hk S H env v _ R Ext.refl (show RV c.K S σ b v (.ptr i) from hv) h
      | bor d => exact hk S H env v _ R Ext.refl (show RV c.K S σ b v (.ptr i) from hv) h
      | bag _ => exact hk S H env v _ R Ext.refl (show RV c.K S σ b v (.bag i) from hv) h
theorem q_var (i : Nat) {x : Str} {pos : Pos} (hN : X.N[i]? = some x := by rfl) (hv : Vis X.env.scope x := by first | exact Or.inl rfl | exact Or.inr (Or.inl rfl) | exact Or.inr (Or.inr rfl)) (hd : (x == ("__debug__" : Str)) = false := by decide)
    (hcd : (x == ("__classdict__" : Str)) = false := by decide) : QE X g W (.Name x pos) (tVar i) (qVar i) := ⟨pe_var hN hv hd hcd, fun N => sm_var i⟩
def qC (d : D) : TEq := fun env k _ => k (.d d) env
theorem sm_c {v : V} {d : D} (h : scalar d = some v) : Sm c W (tC v) (qC d) := fun F P S b σ H env k x Q R hq _ hk => hk S H env v (.d d) R Ext.refl (Rep.scal h) hq
theorem q_int {i : Int} {j : Nat} : QE X g W (.Constant (.int i) j pos) (tC (.int i)) (qC (.int i)) := ⟨pe_int, fun N => sm_c rfl⟩
theorem q_bl {i : Bool} {j : Nat} : QE X g W (.Constant (.bool i) j pos) (tC (.bl i)) (qC (.bl i)) := ⟨pe_bl, fun N => sm_c rfl⟩
theorem q_non {j : Nat} : QE X g W (.Constant .none j pos) (tC .non) (qC .non) := ⟨pe_non, fun N => sm_c rfl⟩
theorem q_str {x : String} {j : Nat} : QE X g W (.Constant (.str x) j pos) (tC (.str (Str.ofString x))) (qC (.str (Str.ofString x))) := ⟨pe_str, fun N => sm_c rfl⟩
theorem q_glob {x : Str} {v : V} {u : Value} {d : D} (hg : Gl X x) (hm : X.mg x = some u) (r : RelV v u) (hs : scalar d = some v) (hd : (x == ("__debug__" : Str)) = false := by decide) : QE X g W (.Name x pos) (tC v) (qC d) := ⟨pe_glob hg hm r hd, fun N => sm_c hs⟩

def Op2 (K : Fg) (r : R2) (f : D → D → (D → Prop) → Prop) : Prop := ∀ (S H : Hp) (v u : V) (d e : D) (k : D → Prop) (Q : VK), Same S H → At K S H v d → At K S H u e → f d e k → (∀ w z, Rep K S w z → k z → Q w H) → r v u H Q
def qOp (f : D → D → (D → Prop) → Prop) (qa qb : TEq) : TEq := fun env k x => qa env (fun y env1 => qb env1 (fun z env2 => ∃ d e, res env2 y = some d ∧ res env2 z = some e ∧ f d e fun w => k (.d w) env2) x) x
theorem sm_op {r : R2} {f : D → D → (D → Prop) → Prop} (h : Op2 c.K r f) (ha : Sm c W ta qa) (hb : Sm c W tb qb) : Sm c W (tOp r ta tb) (qOp f qa qb) := by
  intro F P S b σ H env k x Q R hq hx hk
  refine ha F P S b σ H env _ x _ R hq hx fun S1 H1 env1 v y R1 e1 r1 h1 => ?_
  refine hb F P S1 b σ H1 env1 _ x _ R1 h1 (hx.mono e1) fun S2 H2 env2 u z R2 e2 r2 h2 => ?_
  obtain ⟨d, e, hd, he, hf⟩ := h2
  exact h S2 H2 v u d e _ Q R2.sh (R2.read (r1.mono e2.1) hd) (R2.read r2 he) hf fun w z hz kz => hk S2 H2 env2 w (.d z) R2 (e1.trans e2) hz kz
theorem q_op {op : Operator} {r : R2} {f : D → D → (D → Prop) → Prop} (ho : OpR X (binaryOp op) r) (h : Op2 X.K r f) (ha : QE X g W a ta qa) (hb : QE X g W b tb qb) : QE X g W (.BinOp a op b pos) (tOp r ta tb) (qOp f qa qb) :=
  ⟨pe_op ho ha.pe hb.pe, fun N => sm_op h (ha.sm N) (hb.sm N)⟩
theorem q_ix {r : R2} {f : D → D → (D → Prop) → Prop} (hr : IxR X r) (h : Op2 X.K r f) (ha : QE X g W a ta qa) (hb : QE X g W b tb qb) (hs : PlainIx b := by exact fun _ _ => rfl) : QE X g W (.Subscript a b pos) (tOp r ta tb) (qOp f qa qb) :=
  ⟨pe_ix hr ha.pe hb.pe hs, fun N => sm_op h (ha.sm N) (hb.sm N)⟩
theorem q_cmp {op : CmpOp} {r : R2} {f : D → D → (D → Prop) → Prop} (ho : OpR X (compareOp op) r) (h : Op2 X.K r f) (ha : QE X g W a ta qa) (hb : QE X g W b tb qb) (hm : behindInMarks op b = false := by first | exact nomark _ | rfl) :
    QE X g W (.Compare a [op] [b] pos) (tOp r ta tb) (qOp f qa qb) := ⟨pe_cmpR ho ha.pe hb.pe hm, fun N => sm_op h (ha.sm N) (hb.sm N)⟩
def qTest (q : TEq) : TTq := fun env k x => q env (fun y env1 => ∃ c, res env1 y = some (.bl c) ∧ k c env1) x
theorem sm_test (h : Sm c W t q) : SmT c W (tTest t) (qTest q) := by
  intro F P S b σ H env k x Q R hq hx hk
  refine h F P S b σ H env _ x _ R hq hx fun S1 H1 env1 v y R1 e1 r1 h1 => ?_
  obtain ⟨d, hd, h2⟩ := h1
  have z := (R1.read r1 hd).scal (w := .bl d) rfl
  exact ⟨d, z, hk S1 H1 env1 d R1 e1 h2⟩
theorem qt_cmp {op : CmpOp} {r : R2} {f : D → D → (D → Prop) → Prop} (ho : OpR X (compareOp op) r) (h : Op2 X.K r f) (ha : QE X g W a ta qa) (hb : QE X g W b tb qb) (hm : behindInMarks op b = false := by first | exact nomark _ | rfl) :
    QT X g W (.Compare a [op] [b] pos) (tTest (tOp r ta tb)) (qTest (qOp f qa qb)) := ⟨pt_cmpR ho ha.pe hb.pe hm, fun N => sm_test (sm_op h (ha.sm N) (hb.sm N))⟩
theorem qt_val (h : QE X g W e t q) (he : ∀ whole, isTrue e X.env whole = (do let v ← whole; standAt e.pos; holding [v] (truthy v)) := by intro _; rfl) : QT X g W e (tB t) (qTest q) := ⟨pt_val h.pe he, fun N => sm_test (h.sm N)⟩
def qChain (f f' : D → D → (D → Prop) → Prop) (qa qb qc : TEq) : TEq := fun env k x => qa env (fun y env1 => qb env1 (fun z env2 => ∃ d e, res env2 y = some d ∧ res env2 z = some e ∧ f d e fun w => ∃ b, w = .bl b ∧
  if b = true then qc env2 (fun z' env3 => ∃ e d', res env3 z = some e ∧ res env3 z' = some d' ∧ f' e d' fun w => k (.d w) env3) x else k (.d (.bl false)) env2) x) x
def qAnd (qt qu : TTq) : TTq := fun env k x => qt env (fun c env1 => if c = true then qu env1 k x else k false env1) x
def qOr (qt qu : TTq) : TTq := fun env k x => qt env (fun c env1 => if c = true then k true env1 else qu env1 k x) x
def qNot (qt : TTq) : TTq := fun env k x => qt env (fun c env1 => k (!c) env1) x
theorem sm_and (ha : SmT c W tt qt) (hb : SmT c W u qu) : SmT c W (tAnd tt u) (qAnd qt qu) := by
  intro F P S b σ H env k x Q R hq hx hk
  refine ha F P S b σ H env _ x _ R hq hx fun S1 H1 env1 y R1 e1 h1 => ?_
  cases y with
  | true =>
    rw [if_pos rfl] at h1 ⊢
    exact hb F P S1 b σ H1 env1 _ x _ R1 h1 (hx.mono e1) fun S2 H2 env2 z R2 e2 h2 => hk S2 H2 env2 z R2 (e1.trans e2) h2
  | false => exact hk S1 H1 env1 false R1 e1 h1
theorem sm_or (ha : SmT c W tt qt) (hb : SmT c W u qu) : SmT c W (tOr tt u) (qOr qt qu) := by
  intro F P S b σ H env k x Q R hq hx hk
  refine ha F P S b σ H env _ x _ R hq hx fun S1 H1 env1 y R1 e1 h1 => ?_
  cases y with
  | true => exact hk S1 H1 env1 true R1 e1 h1
  | false =>
    rw [if_neg Bool.false_ne_true] at h1 ⊢
    exact hb F P S1 b σ H1 env1 _ x _ R1 h1 (hx.mono e1) fun S2 H2 env2 z R2 e2 h2 => hk S2 H2 env2 z R2 (e1.trans e2) h2
theorem sm_not (ha : SmT c W tt qt) : SmT c W (tNot tt) (qNot qt) := by
  intro F P S b σ H env k x Q R hq hx hk
  exact ha F P S b σ H env _ x _ R hq hx fun S1 H1 env1 y R1 e1 h1 => hk S1 H1 env1 (!y) R1 e1 h1
theorem qw_and1 (h : QT X g W a tt qt) : QW X g W (.BoolOp .And [a] pos) tt qt := ⟨pw_and1 h.pt, h.sm⟩
theorem qw_or1 (h : QT X g W a tt qt) : QW X g W (.BoolOp .Or [a] pos) tt qt := ⟨pw_or1 h.pt, h.sm⟩
theorem qw_and (h : QT X g W a tt qt) (h2 : QW X g W (.BoolOp .And (b :: es) pos) u qu) : QW X g W (.BoolOp .And (a :: b :: es) pos) (tAnd tt u) (qAnd qt qu) := ⟨pw_and h.pt h2.pw, fun N => sm_and (h.sm N) (h2.sm N)⟩
theorem qw_or (h : QT X g W a tt qt) (h2 : QW X g W (.BoolOp .Or (b :: es) pos) u qu) : QW X g W (.BoolOp .Or (a :: b :: es) pos) (tOr tt u) (qOr qt qu) := ⟨pw_or h.pt h2.pw, fun N => sm_or (h.sm N) (h2.sm N)⟩
theorem QW.toT (h : QW X g W a tt qt) : QT X g W a tt qt := ⟨h.pw.pt, h.sm⟩
theorem qt_not (h : QT X g W a tt qt) : QT X g W (.UnaryOp .Not a pos) (tNot tt) (qNot qt) := ⟨pt_not h.pt, fun N => sm_not (h.sm N)⟩
def qAndV (qa qb : TEq) : TEq := fun env k x => qa env (fun y env1 => ∃ c, res env1 y = some (.bl c) ∧ if c = true then qb env1 k x else k (.d (.bl false)) env1) x
def qOrV (qa qb : TEq) : TEq := fun env k x => qa env (fun y env1 => ∃ c, res env1 y = some (.bl c) ∧ if c = true then k (.d (.bl true)) env1 else qb env1 k x) x
def qNotV (qa : TEq) : TEq := fun env k x => qa env (fun y env1 => ∃ c, res env1 y = some (.bl c) ∧ k (.d (.bl (!c))) env1) x
theorem sm_andV (ha : Sm c W ta qa) (hb : Sm c W tb qb) : Sm c W (tAndV ta tb) (qAndV qa qb) := by
  intro F P S b σ H env k x Q R hq hx hk
  refine ha F P S b σ H env _ x _ R hq hx fun S1 H1 env1 v y R1 e1 r1 h1 => ?_
  obtain ⟨d, hd, h2⟩ := h1
  refine ⟨d, (R1.read r1 hd).scal (w := .bl d) rfl, ?_⟩
  cases d with
  | true =>
    rw [if_pos rfl] at h2 ⊢
    exact hb F P S1 b σ H1 env1 _ x _ R1 h2 (hx.mono e1) fun S2 H2 env2 v z R2 e2 r h3 => hk S2 H2 env2 v z R2 (e1.trans e2) r h3
  | false => exact hk S1 H1 env1 (.bl false) (.d (.bl false)) R1 e1 (Rep.bl false) h2
theorem sm_orV (ha : Sm c W ta qa) (hb : Sm c W tb qb) : Sm c W (tOrV ta tb) (qOrV qa qb) := by
  intro F P S b σ H env k x Q R hq hx hk
  refine ha F P S b σ H env _ x _ R hq hx fun S1 H1 env1 v y R1 e1 r1 h1 => ?_
  obtain ⟨d, hd, h2⟩ := h1
  refine ⟨d, (R1.read r1 hd).scal (w := .bl d) rfl, ?_⟩
  cases d with
  | true => exact hk S1 H1 env1 (.bl true) (.d (.bl true)) R1 e1 (Rep.bl true) h2
  | false =>
    rw [if_neg Bool.false_ne_true] at h2 ⊢
    exact hb F P S1 b σ H1 env1 _ x _ R1 h2 (hx.mono e1) fun S2 H2 env2 v z R2 e2 r h3 => hk S2 H2 env2 v z R2 (e1.trans e2) r h3
theorem sm_notV (ha : Sm c W ta qa) : Sm c W (tNotV ta) (qNotV qa) := by
  intro F P S b σ H env k x Q R hq hx hk
  refine ha F P S b σ H env _ x _ R hq hx fun S1 H1 env1 v y R1 e1 r1 h1 => ?_
  obtain ⟨d, hd, h2⟩ := h1
  exact ⟨d, (R1.read r1 hd).scal (w := .bl d) rfl, hk S1 H1 env1 (.bl (!d)) (.d (.bl (!d))) R1 e1 (Rep.bl (!d)) h2⟩
theorem q_one {op : BoolOp} (h : QE X g W a ta qa) : QE X g W (.BoolOp op [a] pos) ta qa := ⟨pe_one h.pe, h.sm⟩
theorem q_and (h : QE X g W a ta qa) (h2 : QE X g W (.BoolOp .And (b :: es) pos) tb qb) : QE X g W (.BoolOp .And (a :: b :: es) pos) (tAndV ta tb) (qAndV qa qb) := ⟨pe_and h.pe h2.pe, fun N => sm_andV (h.sm N) (h2.sm N)⟩
theorem q_or (h : QE X g W a ta qa) (h2 : QE X g W (.BoolOp .Or (b :: es) pos) tb qb) : QE X g W (.BoolOp .Or (a :: b :: es) pos) (tOrV ta tb) (qOrV qa qb) := ⟨pe_or h.pe h2.pe, fun N => sm_orV (h.sm N) (h2.sm N)⟩
theorem q_not (h : QE X g W a ta qa) : QE X g W (.UnaryOp .Not a pos) (tNotV ta) (qNotV qa) := ⟨pe_not h.pe, fun N => sm_notV (h.sm N)⟩
def qIfE (qt : TTq) (qa qb : TEq) : TEq := fun env k x => qt env (fun c env1 => if c = true then qa env1 k x else qb env1 k x) x
theorem sm_ifE (hc : SmT c W tt qt) (ha : Sm c W ta qa) (hb : Sm c W tb qb) : Sm c W (tIf tt ta tb) (qIfE qt qa qb) := by
  intro F P S b σ H env k x Q R hq hx hk
  refine hc F P S b σ H env _ x _ R hq hx fun S1 H1 env1 y R1 e1 h1 => ?_
  cases y with
  | true =>
    rw [if_pos rfl] at h1 ⊢
    exact ha F P S1 b σ H1 env1 _ x _ R1 h1 (hx.mono e1) fun S2 H2 env2 v z R2 e2 r h2 => hk S2 H2 env2 v z R2 (e1.trans e2) r h2
  | false =>
    rw [if_neg Bool.false_ne_true] at h1 ⊢
    exact hb F P S1 b σ H1 env1 _ x _ R1 h1 (hx.mono e1) fun S2 H2 env2 v z R2 e2 r h2 => hk S2 H2 env2 v z R2 (e1.trans e2) r h2
theorem q_ifExp {cd : Expr} (hc : QT X g W cd tt qt) (ha : QE X g W a ta qa) (hb : QE X g W b tb qb) : QE X g W (.IfExp cd a b pos) (tIf tt ta tb) (qIfE qt qa qb) := ⟨pe_ifExp hc.pt ha.pe hb.pe, fun N => sm_ifE (hc.sm N) (ha.sm N) (hb.sm N)⟩

def qNil : TAq := fun env k _ => k [] env
def qCons (qa : TEq) (ql : TAq) : TAq := fun env k x => qa env (fun y env1 => ql env1 (fun ys env2 => k (y :: ys) env2) x) x
theorem qa_nil : QA X g W [] tNil qNil := ⟨pa_nil, fun N F P S b σ H env k x Q R hq _ hk => hk S H env [] [] R Ext.refl .nil hq⟩
theorem sm_cons (ha : Sm c W ta qa) (hr : SmA c W tl ql) : SmA c W (tCons ta tl) (qCons qa ql) := by
  intro F P S b σ H env k x Q R hq hx hk
  refine ha F P S b σ H env _ x _ R hq hx fun S1 H1 env1 v y R1 e1 r1 h1 => ?_
  refine hr F P S1 b σ H1 env1 _ x _ R1 h1 (hx.mono e1) fun S2 H2 env2 vs ys R2 e2 r2 h2 => ?_
  exact hk S2 H2 env2 (v :: vs) (y :: ys) R2 (e1.trans e2) (.cons (r1.mono e2.1) r2) h2
theorem qa_cons (ha : QE X g W e ta qa) (hr : QA X g W es tl ql) (hs : starEach (e :: es) X.env = (false, eval e X.env) :: starEach es X.env := by rfl) : QA X g W (e :: es) (tCons ta tl) (qCons qa ql) := ⟨pa_cons ha.pe hr.pa hs, fun N => sm_cons (ha.sm N) (hr.sm N)⟩

inductive Ats (K : Fg) (S H : Hp) : List V → List D → Prop
  | nil : Ats K S H [] []
  | cons {v : V} {vs : List V} {d : D} {ds : List D} : At K S H v d → Ats K S H vs ds → Ats K S H (v :: vs) (d :: ds)
def ress (env : En) : List Va → Option (List D)
  | [] => some []
  | y :: ys => (res env y).bind fun d => (ress env ys).map fun ds => d :: ds
theorem Rel.reads {F P S : Hp} {b : Option Addr} {σ : L2.St} {H : Hp} {env : En} (R : Rel c F P S b σ H env) : ∀ {vs : List V} {ys : List Va} {ds : List D}, RVs c.K S σ b vs ys → ress env ys = some ds → Ats c.K S H vs ds
  | _, _, ds, .nil, h => by
    cases h; exact .nil
  | _, _, ds, .cons (y := y) (ys := ys) r rs, h => by
    unfold ress at h
    cases e : res env y with
    | none => rw [e] at h; cases h
    | some d =>
      rw [e] at h
      cases e2 : ress env ys with
      | none => rw [e2] at h; cases h
      | some ds' =>
        rw [e2] at h
        cases h
        exact .cons (R.read r e) (R.reads rs e2)
def Cl (K : Fg) (r : List V → Hp → VK → Prop) (f : List D → (D → Prop) → Prop) : Prop := ∀ (S H : Hp) (vs : List V) (ds : List D) (k : D → Prop) (Q : VK), Same S H → Ats K S H vs ds → f ds k → (∀ w z, Rep K S w z → k z → Q w H) → r vs H Q
def qCB (f : List D → (D → Prop) → Prop) (ql : TAq) : TEq := fun env k x => ql env (fun ys env1 => ∃ ds, ress env1 ys = some ds ∧ f ds fun w => k (.d w) env1) x
theorem sm_cb {r : List V → Hp → VK → Prop} {f : List D → (D → Prop) → Prop} (h : Cl c.K r f) (ha : SmA c W tl ql) : Sm c W (tCB r tl) (qCB f ql) := by
  intro F P S b σ H env k x Q R hq hx hk
  refine ha F P S b σ H env _ x _ R hq hx fun S1 H1 env1 vs ys R1 e1 r1 h1 => ?_
  obtain ⟨ds, hd, hf⟩ := h1
  exact h S1 H1 vs ds _ Q R1.sh (R1.reads r1 hd) hf fun w z hz kz => hk S1 H1 env1 w (.d z) R1 e1 hz kz
theorem q_callB {x : Str} {idS : String} {p : Pos} {r : List V → Hp → VK → Prop} {f : List D → (D → Prop) → Prop} (hc : CallR X (.builtin idS) r) (h : Cl X.K r f) (hg : Gl X x) (hm : X.mg x = none) (hv : bootBuiltins x = some (.builtin idS)) (ha : QA X g W (e :: es) tl ql) (hn : x ≠ "__name__" := by decide) (hdb : (x == ("__debug__" : Str)) = false := by decide)
    (he : starEach (e :: es) X.env = (false, eval e X.env) :: starEach es X.env := by rfl) (hpl : (backTo pos (starEach es X.env)).any (·.1) = false := by rfl) : QE X g W (.Call (.Name x p) (e :: es) [] pos) (tCB r tl) (qCB f ql) :=
  ⟨pe_callB hc hg hm hv ha.pa hn hdb he hpl, fun N => sm_cb h (ha.sm N)⟩
theorem q_callTy {x : Str} {T : String} {p : Pos} {r : List V → Hp → VK → Prop} {f : List D → (D → Prop) → Prop} (hc : CallR X (.type T) r) (h : Cl X.K r f) (hg : Gl X x) (hm : X.mg x = none) (hv : bootBuiltins x = some (.type T)) (ha : QA X g W (e :: es) tl ql) (hn : x ≠ "__name__" := by decide) (hdb : (x == ("__debug__" : Str)) = false := by decide)
    (he : starEach (e :: es) X.env = (false, eval e X.env) :: starEach es X.env := by rfl) (hpl : (backTo pos (starEach es X.env)).any (·.1) = false := by rfl) : QE X g W (.Call (.Name x p) (e :: es) [] pos) (tCB r tl) (qCB f ql) :=
  ⟨pe_callTy hc hg hm hv ha.pa hn hdb he hpl, fun N => sm_cb h (ha.sm N)⟩
def qOfN (q : TNq) : TEq := fun env k x => q env (fun r env1 => k (.d r.dat) env1) x
theorem sm_ofN {q : TNq} (h : SmN c W t q) : Sm c W t (qOfN q) := by
  intro F P S b σ H env k x Q R hq hx hk
  refine h F P S b σ H env _ x _ R hq hx fun S1 H1 env1 v y R1 e1 r1 hn h1 => ?_
  cases y with
  | sh d => exact hk S1 H1 env1 v (.d d) R1 e1 r1 h1
  | own d =>
    obtain ⟨p, rfl, hp, hs, hb, ho⟩ := r1
    obtain ⟨o, hpo⟩ := ho.some
    exact hk _ H1 env1 _ (.d d) (R1.share hp hs hb hpo fun i e => hn d rfl i e p rfl) (e1.trans (Ext.alloc hp hs)) (ho.rep (S0 := S1) hpo hs) h1
theorem QN.qe {q : TNq} (h : QN X g W e t q) : QE X g W e t (qOfN q) := ⟨h.pe, fun N => sm_ofN (h.sm N)⟩

def sh1 (env : En) : Va → Option (D × En)
  | .d d => some (d, env)
  | .ptr i => match env[i]? with
    | some (.sh d) => some (d, env)
    | some (.own d) => some (d, env.set i (.sh d))
    | some (.bor d) => if (scalar d).isSome then some (d, env) else none
    | _ => none
  | .bag _ => none
def shs : List Va → En → Option (List D × En)
  | [], env => some ([], env)
  | y :: ys, env => (sh1 env y).bind fun p => (shs ys p.2).map fun r => (p.1 :: r.1, r.2)
theorem sh1_ok {F P S : Hp} {b : Option Addr} {σ : L2.St} {H : Hp} {env env2 : En} {v : V} {y : Va} {d : D} (R : Rel c F P S b σ H env) (r : RV c.K S σ b v y) (h : sh1 env y = some (d, env2)) : ∃ S2, Rel c F P S2 b σ H env2 ∧ Ext P S S2 ∧ Rep c.K S2 v d := by
  cases y with
  | bag _ => cases h
  | d d' => cases h; exact ⟨S, R, Ext.refl, r⟩
  | ptr i =>
    have r' : σ[i]? = some (some v) := r
    unfold sh1 at h
    simp only at h
    cases e : env[i]? with
    | none => rw [e] at h; cases h
    | some s =>
      rw [e] at h
      have hs := R.sl i s _ e r'
      cases s with
      | no => cases h
      | bag _ => cases h
      | sh d' => cases h; exact ⟨S, R, Ext.refl, hs⟩
      | own d' =>
        cases h
        obtain ⟨p, rfl, hp, hS, hb, ho⟩ := hs
        obtain ⟨o, hpo⟩ := ho.some
        exact ⟨_, R.freeze r' e hpo, Ext.alloc hp hS, ho.rep (S0 := S) hpo hS⟩
      | bor d' =>
        simp only at h
        split at h
        · cases h
          rename_i hz
          obtain ⟨w, hw⟩ := Option.isSome_iff_exists.mp hz
          exact ⟨S, R, Ext.refl, At.scalRep hs hw⟩
        · cases h
theorem shs_ok {F P : Hp} {b : Option Addr} {σ : L2.St} {H : Hp} : ∀ {vs : List V} {ys : List Va} {S : Hp} {env env2 : En} {ds : List D}, Rel c F P S b σ H env → RVs c.K S σ b vs ys → shs ys env = some (ds, env2) → ∃ S2, Rel c F P S2 b σ H env2 ∧ Ext P S S2 ∧ Reps c.K S2 vs ds
  | _, _, S, env, _, _, R, .nil, h => by cases h; exact ⟨S, R, Ext.refl, .nil⟩
  | _, _, S, env, env2, ds, R, .cons (y := y) (ys := ys) (vs := vs) r rs, h => by
    unfold shs at h
    cases e : sh1 env y with
    | none => rw [e] at h; cases h
    | some p =>
      rw [e] at h
      obtain ⟨d, env1⟩ := p
      obtain ⟨S1, R1, x1, q1⟩ := sh1_ok R r e
      cases e2 : shs ys env1 with
      | none => simp [e2] at h
      | some z =>
        obtain ⟨ds', env3⟩ := z
        simp [e2] at h
        obtain ⟨rfl, rfl⟩ := h
        obtain ⟨S2, R2, x2, q2⟩ := shs_ok R1 (rs.mono x1.1) e2
        exact ⟨S2, R2, x1.trans x2, .cons (q1.mono x2.1) q2⟩
theorem size_of {n : Nat} (h : n ≤ 10000000) : n ≤ sizeLine := by rw [sizeLine_eq]; omega
theorem size_lt {n : Nat} (h : n < 10000000) : n < sizeLine := by rw [sizeLine_eq]; omega
def qLst (ql : TAq) : TNq := fun env k x => ql env (fun ys env1 => ∃ ds env2, shs ys env1 = some (ds, env2) ∧ ds.length < 10000000 ∧ k (.own (.lst ds)) env2) x
theorem sm_lst (ha : SmA c W tl ql) : SmN c W (tLst tl) (qLst ql) := by
  intro F P S b σ H env k x Q R hq hx hk
  refine ha F P S b σ H env _ x _ R hq hx fun S1 H1 env1 vs ys R1 e1 r1 h1 => ?_
  obtain ⟨ds, env2, hd, hl, h2⟩ := h1
  obtain ⟨S2, R2, e2, r2⟩ := shs_ok R1 r1 hd
  refine ⟨by rw [r2.length]; exact size_of (by omega), fun p hp => ?_⟩
  have n := R2.new hp
  refine hk S2 _ env2 (.ref p) (.own (.lst ds)) (R2.alloc hp) (e1.trans e2) ⟨p, rfl, n.1, n.2.1, n.2.2, .lst upd_same r2⟩ (fun _ _ i e q hq => ?_) h2
  cases hq
  exact R2.notOwn hp i e
theorem qn_lst (ha : QA X g W es tl ql) : QN X g W (.List es pos) (tLst tl) (qLst ql) := ⟨pe_lst ha.pa, fun N => sm_lst (ha.sm N)⟩
def qTup (ql : TAq) : TEq := fun env k x => ql env (fun ys env1 => ∃ ds env2, shs ys env1 = some (ds, env2) ∧ ds.length < 10000000 ∧ k (.d (.tup ds)) env2) x
theorem sm_tup (ha : SmA c W tl ql) : Sm c W (tTup tl) (qTup ql) := by
  intro F P S b σ H env k x Q R hq hx hk
  refine ha F P S b σ H env _ x _ R hq hx fun S1 H1 env1 vs ys R1 e1 r1 h1 => ?_
  obtain ⟨ds, env2, hd, hl, h2⟩ := h1
  obtain ⟨S2, R2, e2, r2⟩ := shs_ok R1 r1 hd
  refine ⟨by rw [r2.length]; exact size_of (by omega), fun p hp => ?_⟩
  have n := R2.new hp
  exact hk _ _ env2 (.ref p) (.d (.tup ds)) (R2.allocSh hp) (e1.trans (e2.trans (Ext.alloc n.1 n.2.1))) (.tup upd_same (r2.mono (same_upd n.2.1))) h2
theorem q_tup {j : Nat} (ha : QA X g W es tl ql) : QE X g W (.Tuple es j pos) (tTup tl) (qTup ql) := ⟨pe_tup ha.pa, fun N => sm_tup (ha.sm N)⟩
end
end Q
set_option Elab.async false
set_option linter.all false
set_option maxRecDepth 100000
set_option maxHeartbeats 2000000
set_option autoImplicit false
namespace Q
open PySem PySem.Spec PyProof.Rows L2
inductive Ar where
  | bor (d : D) | sh (d : D) | bag (n : Nat)
inductive Md where
  | bor | sh | bag (n : Nat)
abbrev Spq := List Ar → (Rv → Prop) → (Str → List D → Prop) → Prop
def ArOk (K : Fg) (F S : Hp) (b : Option Addr) (v : V) : Ar → Prop
  | .bor d => At K S F v d
  | .sh d => Rep K S v d
  | .bag _ => ∃ p, b = some p ∧ v = .ref p
def aw : Ar → Nat
  | .bag n => n
  | _ => 0
def abud : List Ar → Nat
  | [] => 0
  | a :: r => aw a + abud r
theorem abud_append : ∀ (as bs : List Ar), abud (as ++ bs) = abud as + abud bs
  | [], bs => by simp [abud]
  | a :: as, bs => by
    show aw a + abud (as ++ bs) = aw a + abud as + abud bs
    rw [abud_append as bs]; omega
theorem abud_bor : ∀ ds : List D, abud (ds.map .bor) = 0
  | [] => rfl
  | d :: ds => by
    show aw (.bor d) + abud (ds.map .bor) = 0
    rw [abud_bor ds]; rfl
inductive ArsOk (K : Fg) (F S : Hp) (b : Option Addr) : List V → List Ar → Prop
  | nil : ArsOk K F S b [] []
  | cons {v : V} {vs : List V} {a : Ar} {as : List Ar} : ArOk K F S b v a → ArsOk K F S b vs as → ArsOk K F S b (v :: vs) (a :: as)
section
variable {K : Fg} {F S S' : Hp} {b : Option Addr}
theorem ArsOk.length : ∀ {vs : List V} {as : List Ar}, ArsOk K F S b vs as → vs.length = as.length
  | _, _, .nil => rfl
  | _, _, .cons _ r => congrArg (· + 1) r.length
theorem ArOk.mono {v : V} {a : Ar} (h : ArOk K F S b v a) (e : Same S S') : ArOk K F S' b v a := by
  cases a with
  | bor d => exact At.mono e (Same.refl _) h
  | sh d => exact Rep.mono e h
  | bag _ => exact h
theorem ArsOk.mono (e : Same S S') : ∀ {vs : List V} {as : List Ar}, ArsOk K F S b vs as → ArsOk K F S' b vs as
  | _, _, .nil => .nil
  | _, _, .cons h r => .cons (h.mono e) (r.mono e)
theorem ArsOk.append : ∀ {vs ws : List V} {as bs : List Ar}, ArsOk K F S b vs as → ArsOk K F S b ws bs → ArsOk K F S b (vs ++ ws) (as ++ bs)
  | _, _, _, _, .nil, r => r
  | _, _, _, _, .cons h t, r => .cons h (t.append r)
end
def Bg (c : Cg) (F S H : Hp) (b : Option Addr) (n : Nat) : Prop := ∀ p, b = some p → F p = none ∧ S p = none ∧ BagAt c S H p n
def spQ (K : Fg) (mg : Str → Option Value) (g : Gd) (sp : Spq) : Sp := fun vs H Q E => ∃ (N : Nat) (F S : Hp) (b : Option Addr) (as : List Ar) (k : Rv → Prop) (x : Str → List D → Prop), Same F H ∧ Same S H ∧ Bg ⟨K, mg, g, N⟩ F S H b (abud as) ∧ ArsOk K F S b vs as ∧ sp as k x ∧
  (∀ (v : V) (S' H' : Hp) (r : Rv), Same F H' → Same S' H' → Ext F S S' → Bg ⟨K, mg, g, N⟩ F S' H' b 0 → RvOk K F S' b H' v r → k r → Q v H') ∧
  (∀ (nm : Str) (pay : List D) (C : Addr) (d : Option Addr) (S' H' : Hp), Same F H' → Same S' H' → Ext F S S' → Bg ⟨K, mg, g, N⟩ F S' H' b 0 → x nm pay → mg nm = some (.ref C) → PayOk K S' H' d pay → E (.ref C) d H')
def lend (b : Option Addr) (H : Hp) : Hp := fun a => if b = some a then none else H a
section
variable {c : Cg} {F P S S' H H' X : Hp} {b : Option Addr} {σ : L2.St} {env env2 : En} {v : V} {y : Va} {d : D} {p : Addr}
theorem lend_same : Same (lend b H) H := fun a o e => by
  unfold lend at e
  split at e
  · cases e
  · exact e
theorem same_lend (h : Same X H) (hb : ∀ p, b = some p → X p = none) : Same X (lend b H) := fun a o e => by
  unfold lend
  rw [if_neg (fun z => by rw [hb a z] at e; cases e)]
  exact h a o e
theorem lend_ne (h : b ≠ some p) : lend b H p = H p := by
  unfold lend; rw [if_neg h]
theorem lend_b (h : b = some p) : lend b H p = none := by
  unfold lend; rw [if_pos h]
theorem Rel.sLend (R : Rel c F P S b σ H env) : Same S (lend b H) := same_lend R.sh fun p h => (R.bg p h).2.1
theorem Rel.pLend (R : Rel c F P S b σ H env) : Same P (lend b H) := same_lend R.ph fun p h => (R.bg p h).1
theorem Rel.borAt (R : Rel c F P S b σ H env) (r : RV c.K S σ b v y) (e : res env y = some d) : At c.K S (lend b H) v d := by
  cases y with
  | d d' => cases e; exact .of_rep R.sLend r
  | bag _ => cases e
  | ptr i =>
    have r' : σ[i]? = some (some v) := r
    have e : (env[i]?).bind slotD = some d := e
    cases h : env[i]? with
    | none => rw [h] at e; cases e
    | some s =>
      rw [h] at e
      have hs := R.sl i s _ h r'
      cases s with
      | no => cases e
      | bag _ => cases e
      | sh d' => cases e; exact .of_rep R.sLend hs
      | bor d' => cases e; exact At.mono (Same.refl _) (R.fp.trans R.pLend) hs
      | own d' =>
        cases e
        obtain ⟨p, rfl, _, _, hb, ho⟩ := hs
        exact (ho.mono (Same.refl _) (lend_ne hb)).at
def arg1 (env : En) : Md → Va → Option (Ar × En)
  | .bor, y => (res env y).map fun d => (.bor d, env)
  | .sh, y => (sh1 env y).map fun r => (.sh r.1, r.2)
  | .bag m, .bag i => match env[i]? with
    | some (.bag n) => if m ≤ n then some (.bag m, env.set i (.bag (n - m))) else none
    | _ => none
  | .bag _, _ => none
def args : List Md → List Va → En → Option (List Ar × En)
  | m :: ms, y :: ys, env => (arg1 env m y).bind fun p => (args ms ys p.2).map fun r => (p.1 :: r.1, r.2)
  | [], [], env => some ([], env)
  | _, _, _ => none
theorem sh1_bud {d : D} (h : sh1 env y = some (d, env2)) : bud env2 ≤ bud env := by
  cases y with
  | bag _ => cases h
  | d d' => cases h; exact Nat.le_refl _
  | ptr i =>
    unfold sh1 at h
    simp only at h
    cases e : env[i]? with
    | none => rw [e] at h; cases h
    | some s =>
      rw [e] at h
      cases s with
      | no => cases h
      | bag _ => cases h
      | sh d' => cases h; exact Nat.le_refl _
      | own d' => cases h; exact bud_le env i _ rfl
      | bor d' =>
        simp only at h
        split at h
        · cases h; exact Nat.le_refl _
        · cases h
theorem arg1_ok {m : Md} {a : Ar} (R : Rel c F P S b σ H env) (r : RV c.K S σ b v y) (h : arg1 env m y = some (a, env2)) : ∃ S2, Rel c F P S2 b σ H env2 ∧ Ext P S S2 ∧ ArOk c.K (lend b H) S2 b v a ∧ bud env2 + aw a ≤ bud env := by
  cases m with
  | bor =>
    cases e : res env y with
    | none => simp [arg1, e] at h
    | some d =>
      simp [arg1, e] at h
      obtain ⟨rfl, rfl⟩ := h
      exact ⟨S, R, Ext.refl, R.borAt r e, Nat.le_refl _⟩
  | sh =>
    cases e : sh1 env y with
    | none => simp [arg1, e] at h
    | some z =>
      obtain ⟨d, env3⟩ := z
      simp [arg1, e] at h
      obtain ⟨rfl, rfl⟩ := h
      obtain ⟨S2, h1, h2, h3⟩ := sh1_ok R r e
      exact ⟨S2, h1, h2, h3, sh1_bud e⟩
  | bag m =>
    cases y with
    | d d => cases h
    | ptr i => cases h
    | bag i =>
      have r' : σ[i]? = some (some v) := r
      unfold arg1 at h
      simp only at h
      cases e : env[i]? with
      | none => rw [e] at h; cases h
      | some s =>
        rw [e] at h
        cases s with
        | no => cases h
        | sh _ => cases h
        | own _ => cases h
        | bor _ => cases h
        | bag n =>
          simp only at h
          split at h
          · rename_i hm
            cases h
            have hs := R.sl i _ _ e r'
            have z := bud_set env i (.bag (n - m)) (.bag n) e
            have z' : bud (env.set i (.bag (n - m))) + n = bud env + (n - m) := z
            refine ⟨S, ⟨by rw [List.length_set]; exact R.len, R.fp, R.ph, R.sh, fun p e' => ⟨(R.bg p e').1, (R.bg p e').2.1, (R.bg p e').2.2.mono (Same.refl _) rfl (by omega)⟩, fun j s' v' h3 h4 => ?_, fun j k q d d' hjk g1 g2 g3 g4 => ?_⟩, Ext.refl, hs, by show _ + m ≤ _; omega⟩
            · rcases getElem?_set' h3 with ⟨z1, z2, _⟩ | ⟨_, z2⟩
              · subst z1; subst z2
                rw [r'] at h4; cases h4
                exact hs
              · exact R.sl j s' v' z2 h4
            · rcases getElem?_set' g2 with ⟨_, z, _⟩ | ⟨_, z1⟩
              · cases z
              · rcases getElem?_set' g4 with ⟨_, z, _⟩ | ⟨_, z2⟩
                · cases z
                · exact R.ap j k q d d' hjk g1 z1 g3 z2
          · cases h
end
theorem args_ok {c : Cg} {F P : Hp} {b : Option Addr} {σ : L2.St} {H : Hp} : ∀ {ms : List Md} {vs : List V} {ys : List Va} {S : Hp} {env env2 : En} {as : List Ar}, Rel c F P S b σ H env → RVs c.K S σ b vs ys → args ms ys env = some (as, env2) →
    ∃ S2, Rel c F P S2 b σ H env2 ∧ Ext P S S2 ∧ ArsOk c.K (lend b H) S2 b vs as ∧ bud env2 + abud as ≤ bud env
  | [], _, _, S, env, _, _, R, .nil, h => by cases h; exact ⟨S, R, Ext.refl, .nil, Nat.le_refl _⟩
  | [], _, _, _, _, _, _, _, .cons _ _, h => by cases h
  | _ :: _, _, _, _, _, _, _, _, .nil, h => by cases h
  | m :: ms, _, _, S, env, env2, as, R, .cons (y := y) (ys := ys) (vs := vs) r rs, h => by
    unfold args at h
    cases e : arg1 env m y with
    | none => rw [e] at h; cases h
    | some p =>
      rw [e] at h
      obtain ⟨a, env1⟩ := p
      obtain ⟨S1, R1, x1, q1, b1⟩ := arg1_ok R r e
      cases e2 : args ms ys env1 with
      | none => simp [e2] at h
      | some z =>
        obtain ⟨as', env3⟩ := z
        simp [e2] at h
        obtain ⟨rfl, rfl⟩ := h
        obtain ⟨S2, R2, x2, q2, b2⟩ := args_ok R1 (rs.mono x1.1) e2
        exact ⟨S2, R2, x1.trans x2, .cons (q1.mono x2.1) q2, by show _ + (aw a + abud as') ≤ _; omega⟩
section
variable {c : Cg} {F P S S' H H' : Hp} {b : Option Addr} {σ : L2.St} {env : En} {v : V} {r : Rv}
theorem Rel.after (R : Rel c F P S b σ H env) (h1 : Same (lend b H) H') (h2 : Same S' H') (h3 : Ext (lend b H) S S') (h4 : Bg ⟨c.K, c.mg, c.g, c.N - bud env⟩ (lend b H) S' H' b 0) : Rel c F P S' b σ H' env ∧ Ext P S S' := by
  refine ⟨R.to h3.1 (R.pLend.trans h1) h2 (fun i p d e1 e2 => ?_) fun p e => ⟨(h4 p e).2.1, ?_⟩, h3.1, fun a e1 e2 => h3.2 a e1 ?_⟩
  · obtain ⟨_, hs, hb, ho⟩ := R.ownAt e1 e2
    obtain ⟨o, hp⟩ := ho.some
    have hl : lend b H p = some o := (lend_ne hb).trans hp
    exact ⟨h3.2 p hs (by rw [hl]; simp), (h1 p o hl).trans hp.symm⟩
  · obtain ⟨_, _, xs, ds, g1, g2, g3, g4, g5⟩ := h4 p e
    obtain ⟨_, _, _, _, _, _, _, k4, k5⟩ := R.bg p e
    exact ⟨xs, ds, g1, g2, g3, by have z : c.g.cnt ds + 0 ≤ c.N - bud env := g4; omega, k5⟩
  · cases e : P a with
    | none => exact absurd e e2
    | some o => rw [R.pLend a o e]; simp
theorem RvOk.back (R : Rel c F P S b σ H env) (h : RvOk c.K (lend b H) S' b H' v r) : RvOk c.K P S' b H' v r ∧ ∀ d, r = .own d → ∀ (i : Nat) (e : D) (p : Addr), v = .ref p → σ[i]? = some (some (.ref p)) → env[i]? ≠ some (.own e) := by
  cases r with
  | sh d => exact ⟨h, fun d e => nomatch e⟩
  | own d =>
    obtain ⟨p, rfl, hp, hs, hb, ho⟩ := h
    have hn : H p = none := (lend_ne hb).symm.trans hp
    refine ⟨⟨p, rfl, R.ph.free hn, hs, hb, ho⟩, fun _ _ i e q hq h1 h2 => ?_⟩
    cases hq
    exact R.notOwn hn i e h1 h2
end
def sV (d : D) : V := (scalar d).getD .non
def flats (ds : List D) : Bool := ds.all fun d => (scalar d).isSome
structure Cal (P : Program) (w : World) (K : Fg) (mg : Str → Option Value) (base : Heap) (g : Gd) (k : Nat) (x : Str) (dds : List D) (sp : Spq) : Prop where
  ex : ∃ (f : Addr) (fd : FuncData) (ps : List Str) (ds : List Value), FnG P w K mg base k f fd ps (spQ K mg g sp) ∧ mg x = some (.ref f) ∧ PySem.W.keepIn K (.ref f) = true ∧ Binds K fd ps ds ∧ Vals (dds.map sV) ds ∧ flats dds = true
theorem At.ofScal {K : Fg} {S H : Hp} {d : D} {v : V} (h : scalar d = some v) : At K S H v d := by
  cases d <;> simp [scalar] at h <;> subst h <;> constructor
theorem dds_ok {K : Fg} {F S : Hp} {b : Option Addr} : ∀ {dds : List D}, flats dds = true → ArsOk K F S b (dds.map sV) (dds.map .bor)
  | [], _ => .nil
  | d :: dds, h => by
    unfold flats at h
    rw [List.all_cons, Bool.and_eq_true] at h
    obtain ⟨w, hw⟩ := Option.isSome_iff_exists.mp h.1
    have e : sV d = w := by unfold sV; rw [hw]; rfl
    rw [List.map_cons, List.map_cons, e]
    exact .cons (show At K S F w d from .ofScal hw) (dds_ok h.2)
section
variable {X : Cx} {g : Gd} {W : WX} {e a : Expr} {es : List Expr} {tl : TA} {ql : TAq} {pos p : Pos} {c : Cg} {k j : Nat} {x : Str} {dds : List D} {sp : Spq} {ms : List Md}
def qCall (ms : List Md) (dds : List D) (sp : Spq) (ql : TAq) : TNq := fun env k x => ql env (fun ys env1 => ∃ as env2, args ms ys env1 = some (as, env2) ∧ sp (as ++ dds.map .bor) (fun r => k r env2) fun _ _ => False) x
def qCallS (ms : List Md) (sp : Spq) (ql : TAq) : TNq := fun env k x => ql env (fun ys env1 => ∃ as env2, args ms ys env1 = some (as, env2) ∧ sp as (fun r => k r env2) fun nm pay => x nm pay env2) x
theorem sm_call (hd : flats dds = true) (ha : SmA c W tl ql) : SmN c W (tCall (spQ c.K c.mg c.g sp) (dds.map sV) E0 tl) (qCall ms dds sp ql) := by
  intro F P S b σ H env k x Q R hq hx hk
  refine ha F P S b σ H env _ x _ R hq hx fun S1 H1 env1 vs ys R1 e1 r1 h1 => ?_
  obtain ⟨as, env2, h2, h3⟩ := h1
  obtain ⟨S2, R2, e2, r2, bl⟩ := args_ok R1 r1 h2
  have bg2 : Bg ⟨c.K, c.mg, c.g, c.N - bud env2⟩ (lend b H1) S2 H1 b (abud as) := fun p e => by
    obtain ⟨_, n2, _⟩ := R2.bg p e
    obtain ⟨_, _, xs, ds, g1, g2, g3, g4, g5⟩ := R1.bg p e
    refine ⟨lend_b e, n2, xs, ds, g1, g2.mono e2.1, g3, ?_, by show c.N - bud env2 ≤ _; omega⟩
    show c.g.cnt ds + abud as ≤ c.N - bud env2
    omega
  refine ⟨c.N - bud env2, lend b H1, S2, b, as ++ dds.map .bor, _, _, lend_same, R2.sh, by rw [abud_append, abud_bor]; exact bg2, r2.append (dds_ok hd), h3, fun v S' H' r s1 s2 s3 s4 s5 s6 => ?_, fun _ _ _ _ _ _ _ _ _ _ z => z.elim⟩
  obtain ⟨R3, e3⟩ := R2.after s1 s2 s3 s4
  obtain ⟨o1, o2⟩ := RvOk.back R2 s5
  exact hk S' H' env2 v r R3 (e1.trans (e2.trans e3)) o1 o2 s6
theorem qn_call (ms : List Md) (cl : Cal X.prog X.w X.K X.mg X.base g k x dds sp) (hgd : X.A.guards = some []) (hr : Room j X.A) (hk : k ≤ j) (hg : Gl X x) (ha : QA X g W (e :: es) tl ql) (hdb : (x == ("__debug__" : Str)) = false := by decide)
    (he : starEach (e :: es) X.env = (false, eval e X.env) :: starEach es X.env := by rfl) (hpl : (backTo pos (starEach es X.env)).any (·.1) = false := by rfl) :
    QN X g W (.Call (.Name x p) (e :: es) [] pos) (tCall (spQ X.K X.mg g sp) (dds.map sV) E0 tl) (qCall ms dds sp ql) := by
  obtain ⟨f, fd, ps, ds, G, hm, kp, hb, hv, hd⟩ := cl.ex
  exact ⟨pe_callG G hgd (hr.mono hk) hg hm kp hb hv ha.pa hdb he hpl, fun N => sm_call hd (ha.sm N)⟩
theorem sm_callS (ha : SmA c W tl ql) : SmN c W (tCallS (spQ c.K c.mg c.g sp) (WE W) tl) (qCallS ms sp ql) := by
  intro F P S b σ H env k x Q R hq hx hk
  refine ha F P S b σ H env _ x _ R hq hx fun S1 H1 env1 vs ys R1 e1 r1 h1 => ?_
  obtain ⟨as, env2, h2, h3⟩ := h1
  obtain ⟨S2, R2, e2, r2, bl⟩ := args_ok R1 r1 h2
  have bg2 : Bg ⟨c.K, c.mg, c.g, c.N - bud env2⟩ (lend b H1) S2 H1 b (abud as) := fun p e => by
    obtain ⟨_, n2, _⟩ := R2.bg p e
    obtain ⟨_, _, xs, ds, g1, g2, g3, g4, g5⟩ := R1.bg p e
    refine ⟨lend_b e, n2, xs, ds, g1, g2.mono e2.1, g3, ?_, by show c.N - bud env2 ≤ _; omega⟩
    show c.g.cnt ds + abud as ≤ c.N - bud env2
    omega
  refine ⟨c.N - bud env2, lend b H1, S2, b, as, _, _, lend_same, R2.sh, bg2, r2, h3, fun v S' H' r s1 s2 s3 s4 s5 s6 => ?_, fun nm pay C d S' H' s1 s2 s3 s4 s5 s6 s7 => ?_⟩
  · obtain ⟨R3, e3⟩ := R2.after s1 s2 s3 s4
    obtain ⟨o1, o2⟩ := RvOk.back R2 s5
    exact hk S' H' env2 v r R3 (e1.trans (e2.trans e3)) o1 o2 s6
  · obtain ⟨R3, e3⟩ := R2.after s1 s2 s3 s4
    exact hx nm pay env2 S' σ H' C d R3 (e1.trans (e2.trans e3)) s5 s6 s7
theorem qn_callS (ms : List Md) (cl : Cal X.prog X.w X.K X.mg X.base g k x [] sp) (hgd : X.A.guards = some []) (hr : Room j X.A) (hk : k ≤ j) (tk : Takes X W) (hg : Gl X x) (ha : QA X g W (e :: es) tl ql) (hdb : (x == ("__debug__" : Str)) = false := by decide)
    (he : starEach (e :: es) X.env = (false, eval e X.env) :: starEach es X.env := by rfl) (hpl : (backTo pos (starEach es X.env)).any (·.1) = false := by rfl) :
    QN X g W (.Call (.Name x p) (e :: es) [] pos) (tCallS (spQ X.K X.mg g sp) (WE W) tl) (qCallS ms sp ql) := by
  obtain ⟨f, fd, ps, ds, G, hm, kp, hb, hv, hd⟩ := cl.ex
  cases hv
  exact ⟨pe_callGS G hgd (hr.mono hk) tk hg hm kp hb ha.pa hdb he hpl, fun N => sm_callS (ha.sm N)⟩
end
structure Ens where
  nx : En → Prop
  rt : Rv → En → Prop
  bk : En → Prop := fun _ => False
  ct : En → Prop := fun _ => False
  ex : XQ := fun _ _ _ => False
abbrev TSq := Ens → En → Prop
structure EOk (c : Cg) (F P : Hp) (b : Option Addr) (W : WX) (S : Hp) (DQ : Ens) (D : Ends) : Prop where
  nx : ∀ (S' : Hp) (σ' : L2.St) (H' : Hp) (env' : En), Rel c F P S' b σ' H' env' → Ext P S S' → DQ.nx env' → D.nx σ' H'
  rt : ∀ (S' : Hp) (σ' : L2.St) (H' : Hp) (env' : En) (v : V) (r : Rv), Rel c F P S' b σ' H' env' → Ext P S S' → RvOk c.K P S' b H' v r → DQ.rt r env' → D.rt v H'
  bk : ∀ (S' : Hp) (σ' : L2.St) (H' : Hp) (env' : En), Rel c F P S' b σ' H' env' → Ext P S S' → DQ.bk env' → D.bk σ' H'
  ct : ∀ (S' : Hp) (σ' : L2.St) (H' : Hp) (env' : En), Rel c F P S' b σ' H' env' → Ext P S S' → DQ.ct env' → D.ct σ' H'
  ex : XOk c F P b W S DQ.ex
theorem EOk.mono {c : Cg} {F P : Hp} {b : Option Addr} {W : WX} {S S' : Hp} {DQ : Ens} {D : Ends} (h : EOk c F P b W S DQ D) (e : Ext P S S') : EOk c F P b W S' DQ D :=
  ⟨fun S2 σ' H' env' R e2 => h.nx S2 σ' H' env' R (e.trans e2), fun S2 σ' H' env' v r R e2 => h.rt S2 σ' H' env' v r R (e.trans e2), fun S2 σ' H' env' R e2 => h.bk S2 σ' H' env' R (e.trans e2), fun S2 σ' H' env' R e2 => h.ct S2 σ' H' env' R (e.trans e2), h.ex.mono e⟩
def SmS (c : Cg) (W : WX) (t : TS) (q : TSq) : Prop := ∀ (F P S : Hp) (b : Option Addr) (σ : L2.St) (H : Hp) (env : En) (DQ : Ens) (D : Ends), Rel c F P S b σ H env → q DQ env → EOk c F P b W S DQ D → t D σ H
structure QS (X : Cx) (g : Gd) (W : WX) (st : Stmt) (t : TS) (q : TSq) : Prop where
  ps : PS X st t
  sm : ∀ N, SmS (cg X g N) W t q
structure QSs (X : Cx) (g : Gd) (W : WX) (sts : List Stmt) (t : TS) (q : TSq) : Prop where
  pss : PSs X sts t
  sm : ∀ N, SmS (cg X g N) W t q
section
variable {X : Cx} {g : Gd} {W : WX} {e a : Expr} {st : Stmt} {sts : List Stmt} {t u : TS} {q r : TSq} {te : TE} {qe : TEq} {qn : TNq} {tt : TT} {qt : TTq} {pos : Pos} {c : Cg}
def qNext : TSq := fun DQ env => DQ.nx env
def qSeq (q r : TSq) : TSq := fun DQ env => q { DQ with nx := r DQ } env
theorem sm_next : SmS c W tNext qNext := fun F P S b σ H env DQ D R h k => k.nx S σ H env R Ext.refl h
theorem sm_seq (h1 : SmS c W t q) (h2 : SmS c W u r) : SmS c W (tSeq t u) (qSeq q r) := fun F P S b σ H env DQ D R h k =>
  h1 F P S b σ H env _ _ R h ⟨fun S' σ' H' env' R' e' h' => h2 F P S' b σ' H' env' DQ D R' h' (k.mono e'), k.rt, k.bk, k.ct, k.ex⟩
theorem qs_nil : QSs X g W [] tNext qNext := ⟨pss_nil, fun N => sm_next⟩
theorem qs_cons (h1 : QS X g W st t q) (h2 : QSs X g W sts u r) : QSs X g W (st :: sts) (tSeq t u) (qSeq q r) := ⟨pss_cons h1.ps h2.pss, fun N => sm_seq (h1.sm N) (h2.sm N)⟩
theorem qs_one (h1 : QS X g W st t q) : QSs X g W [st] t q := ⟨pss_one h1.ps, h1.sm⟩
theorem qs_pass : QS X g W (.Pass pos) tNext qNext := ⟨ps_pass, fun N => sm_next⟩
def qDrop (q : TEq) : TSq := fun DQ env => q env (fun _ env1 => DQ.nx env1) DQ.ex
theorem qs_expr (h : QE X g W e te qe) (hs : swapsWith e none pos.line X.env = pure false := by rfl) : QS X g W (.Expr e pos) (tDrop te) (qDrop qe) :=
  ⟨ps_expr h.pe hs, fun N F P S b σ H env DQ D R hq k => h.sm N F P S b σ H env _ _ _ R hq k.ex fun S1 H1 env1 v y R1 e1 _ h1 => k.nx S1 σ H1 env1 R1 e1 h1⟩
def retV (env : En) : Va → Option Rv
  | .d d => some (.sh d)
  | .ptr i => match env[i]? with
    | some (.sh d) => some (.sh d)
    | some (.own d) => some (.own d)
    | some (.bor d) => if (scalar d).isSome then some (.sh d) else none
    | _ => none
  | .bag _ => none
def qRet (q : TEq) : TSq := fun DQ env => q env (fun y env1 => ∃ r, retV env1 y = some r ∧ DQ.rt r env1) DQ.ex
theorem sm_ret (h : Sm c W te qe) : SmS c W (tRet te) (qRet qe) := by
  intro F P S b σ H env DQ D R hq k
  refine h F P S b σ H env _ _ _ R hq k.ex fun S1 H1 env1 v y R1 e1 r1 h1 => ?_
  obtain ⟨r, hr, h2⟩ := h1
  refine k.rt S1 σ H1 env1 v r R1 e1 ?_ h2
  cases y with
  | bag _ => cases hr
  | d d => cases hr; exact r1
  | ptr i =>
    have r' : σ[i]? = some (some v) := r1
    unfold retV at hr
    simp only at hr
    cases e : env1[i]? with
    | none => rw [e] at hr; cases hr
    | some s =>
      rw [e] at hr
      have hs := R1.sl i s _ e r'
      cases s with
      | no => cases hr
      | bag _ => cases hr
      | sh d' => cases hr; exact hs
      | own d' => cases hr; exact hs
      | bor d' =>
        simp only at hr
        split at hr
        · cases hr
          rename_i hz
          obtain ⟨w, hw⟩ := Option.isSome_iff_exists.mp hz
          exact At.scalRep hs hw
        · cases hr
theorem qs_ret (h : QE X g W e te qe) : QS X g W (.Return (some e) pos) (tRet te) (qRet qe) := ⟨ps_ret h.pe, fun N => sm_ret (h.sm N)⟩
def qRetN (q : TNq) : TSq := fun DQ env => q env DQ.rt DQ.ex
theorem qs_retN (h : QN X g W e te qn) : QS X g W (.Return (some e) pos) (tRet te) (qRetN qn) :=
  ⟨ps_ret h.pe, fun N F P S b σ H env DQ D R hq k => h.sm N F P S b σ H env _ _ _ R hq k.ex fun S1 H1 env1 v y R1 e1 r1 _ h1 => k.rt S1 σ H1 env1 v y R1 e1 r1 h1⟩
def qIf (qt : TTq) (q r : TSq) : TSq := fun DQ env => qt env (fun c env1 => if c = true then q DQ env1 else r DQ env1) DQ.ex
theorem sm_if (hc : SmT c W tt qt) (h1 : SmS c W t q) (h2 : SmS c W u r) : SmS c W (tIfS tt t u) (qIf qt q r) := by
  intro F P S b σ H env DQ D R hq k
  refine hc F P S b σ H env _ _ _ R hq k.ex fun S1 H1 env1 y R1 e1 h => ?_
  cases y with
  | true =>
    rw [if_pos rfl] at h ⊢
    exact h1 F P S1 b σ H1 env1 DQ D R1 h (k.mono e1)
  | false =>
    rw [if_neg Bool.false_ne_true] at h ⊢
    exact h2 F P S1 b σ H1 env1 DQ D R1 h (k.mono e1)
theorem qs_if {cd : Expr} {bs os : List Stmt} (hc : QT X g W cd tt qt) (h1 : QSs X g W bs t q) (h2 : QSs X g W os u r) : QS X g W (.If cd bs os pos) (tIfS tt t u) (qIf qt q r) := ⟨ps_if hc.pt h1.pss h2.pss, fun N => sm_if (hc.sm N) (h1.sm N) (h2.sm N)⟩
def asV (env : En) : Va → Option (Sl × En)
  | .d d => some (.sh d, env)
  | .ptr i => match env[i]? with
    | some (.sh d) => some (.sh d, env)
    | some (.own d) => some (.sh d, env.set i (.sh d))
    | some (.bor d) => some (.bor d, env)
    | _ => none
  | .bag _ => none
theorem asV_ok {F P S H : Hp} {b : Option Addr} {σ : L2.St} {env env2 : En} {v : V} {y : Va} {s : Sl} (R : Rel c F P S b σ H env) (r : RV c.K S σ b v y) (h : asV env y = some (s, env2)) :
    ∃ S2, Rel c F P S2 b σ H env2 ∧ Ext P S S2 ∧ SlOk c.K F P S2 H b s (some v) ∧ (∀ d, s ≠ .own d) ∧ bw s = 0 := by
  cases y with
  | bag _ => cases h
  | d d' => cases h; exact ⟨S, R, Ext.refl, r, fun d e => (nomatch e), rfl⟩
  | ptr i =>
    have r' : σ[i]? = some (some v) := r
    unfold asV at h
    simp only at h
    cases e : env[i]? with
    | none => rw [e] at h; cases h
    | some s' =>
      rw [e] at h
      have hs := R.sl i s' _ e r'
      cases s' with
      | no => cases h
      | bag _ => cases h
      | sh d' => cases h; exact ⟨S, R, Ext.refl, hs, fun d e => (nomatch e), rfl⟩
      | bor d' => cases h; exact ⟨S, R, Ext.refl, hs, fun d e => (nomatch e), rfl⟩
      | own d' =>
        cases h
        obtain ⟨p, rfl, hp, hS, hb, ho⟩ := hs
        obtain ⟨o, hpo⟩ := ho.some
        exact ⟨_, R.freeze r' e hpo, Ext.alloc hp hS, ho.rep (S0 := S) hpo hS, fun d e => (nomatch e), rfl⟩
def qSet (i : Nat) (q : TEq) : TSq := fun DQ env => q env (fun y env1 => ∃ s env2, asV env1 y = some (s, env2) ∧ DQ.nx (env2.set i s)) DQ.ex
theorem sm_set {i : Nat} (h : Sm c W te qe) : SmS c W (tAsg te (gName i)) (qSet i qe) := by
  intro F P S b σ H env DQ D R hq k
  refine h F P S b σ H env _ _ _ R hq k.ex fun S1 H1 env1 v y R1 e1 r1 h1 => ?_
  obtain ⟨s, env2, hs, h2⟩ := h1
  obtain ⟨S2, R2, e2, hk, hn, hw⟩ := asV_ok R1 r1 hs
  exact k.nx S2 _ H1 _ (R2.put hk hn hw) (e1.trans e2) h2
theorem qs_set {i : Nat} {x : Str} {pos' : Pos} (hN : X.N.Nodup) (hi : X.N[i]? = some x) (hx : Loc X.env.scope x) (he : QE X g W e te qe) (hs : swapsWith e (some (.Name x pos')) pos.line X.env = pure false := by rfl) (hf : X.fn x = true ∨ X.env.scope.names.lookup x = some .local := by first | exact .inl rfl | exact .inr rfl | assumption) :
    QS X g W (.Assign [.Name x pos'] e pos) (tAsg te (gName i)) (qSet i qe) := ⟨ps_set hN hi hx he.pe hs hf, fun N => sm_set (he.sm N)⟩
def rvSl : Rv → Sl
  | .sh d => .sh d
  | .own d => .own d
def qSetN (i : Nat) (q : TNq) : TSq := fun DQ env => q env (fun r env1 => DQ.nx (env1.set i (rvSl r))) DQ.ex
theorem Rel.putRv {F P S H : Hp} {b : Option Addr} {σ : L2.St} {env : En} {v : V} {y : Rv} {i : Nat} (R : Rel c F P S b σ H env) (r1 : RvOk c.K P S b H v y) (hn : ∀ d, y = .own d → ∀ (i : Nat) (e : D) (p : Addr), v = .ref p → σ[i]? = some (some (.ref p)) → env[i]? ≠ some (.own e)) :
    Rel c F P S b (σ.set i (some v)) H (env.set i (rvSl y)) := by
  cases y with
  | sh d => exact R.putSh r1
  | own d =>
    obtain ⟨p, rfl, hp, hs, hb, ho⟩ := r1
    exact R.putOwn hp hs hb ho fun j e => hn d rfl j e p rfl
theorem sm_setN {i : Nat} (h : SmN c W te qn) : SmS c W (tAsg te (gName i)) (qSetN i qn) := by
  intro F P S b σ H env DQ D R hq k
  refine h F P S b σ H env _ _ _ R hq k.ex fun S1 H1 env1 v y R1 e1 r1 hn h1 => ?_
  exact k.nx S1 _ H1 _ (R1.putRv r1 hn) e1 h1
theorem qs_setN {i : Nat} {x : Str} {pos' : Pos} (hN : X.N.Nodup) (hi : X.N[i]? = some x) (hx : Loc X.env.scope x) (he : QN X g W e te qn) (hs : swapsWith e (some (.Name x pos')) pos.line X.env = pure false := by rfl) (hf : X.fn x = true ∨ X.env.scope.names.lookup x = some .local := by first | exact .inl rfl | exact .inr rfl | assumption) :
    QS X g W (.Assign [.Name x pos'] e pos) (tAsg te (gName i)) (qSetN i qn) := ⟨ps_set hN hi hx he.pe hs hf, fun N => sm_setN (he.sm N)⟩
end
end Q
set_option Elab.async false
set_option linter.all false
set_option maxRecDepth 100000
set_option maxHeartbeats 2000000
set_option autoImplicit false
namespace Q
open PySem PySem.Spec PyProof.Rows L2
abbrev TGq := D → En → (En → Prop) → Prop
abbrev TGsq := List D → En → (En → Prop) → Prop
def Outside (ix : List Nat) (σ σ' : L2.St) : Prop := σ'.length = σ.length ∧ ∀ j, j ∉ ix → σ'[j]? = σ[j]?
theorem Outside.refl {ix : List Nat} {σ : L2.St} : Outside ix σ σ := ⟨rfl, fun _ _ => rfl⟩
theorem Outside.trans {ix : List Nat} {σ σ1 σ2 : L2.St} (a : Outside ix σ σ1) (b : Outside ix σ1 σ2) : Outside ix σ σ2 := ⟨b.1.trans a.1, fun j h => (b.2 j h).trans (a.2 j h)⟩
theorem Outside.set {ix : List Nat} {σ : L2.St} {i : Nat} {v : Option V} (h : i ∈ ix) : Outside ix σ (σ.set i v) := ⟨List.length_set, fun j hj => List.getElem?_set_ne (fun e => hj (by rw [← e]; exact h))⟩
def SmG (c : Cg) (ix : List Nat) (t : TG) (q : TGq) : Prop := ∀ (F P S : Hp) (b : Option Addr) (σ : L2.St) (H : Hp) (env : En) (v : V) (d : D) (k : En → Prop) (Q : L2.St → Hp → Prop), Rel c F P S b σ H env → Rep c.K S v d → q d env k →
  (∀ (σ' : L2.St) (env' : En), Rel c F P S b σ' H env' → Outside ix σ σ' → k env' → Q σ' H) → t v σ H Q
def SmGs (c : Cg) (ix : List Nat) (t : TGs) (q : TGsq) : Prop := ∀ (F P S : Hp) (b : Option Addr) (σ : L2.St) (H : Hp) (env : En) (vs : List V) (ds : List D) (k : En → Prop) (Q : L2.St → Hp → Prop), Rel c F P S b σ H env → Reps c.K S vs ds → q ds env k →
  (∀ (σ' : L2.St) (env' : En), Rel c F P S b σ' H env' → Outside ix σ σ' → k env' → Q σ' H) → t vs σ H Q
structure QG (X : Cx) (g : Gd) (ix : List Nat) (e : Expr) (t : TG) (q : TGq) : Prop where
  pg : PG X e t
  sm : ∀ N, SmG (cg X g N) ix t q
structure QGs (X : Cx) (g : Gd) (ix : List Nat) (es : List Expr) (t : TGs) (q : TGsq) : Prop where
  pgs : PGs X es t
  sm : ∀ N, SmGs (cg X g N) ix t q
section
variable {X : Cx} {g : Gd} {W : WX} {e a : Expr} {es : List Expr} {pos : Pos} {c : Cg} {ix : List Nat}
def qName (i : Nat) : TGq := fun d env k => k (env.set i (.sh d))
theorem qg_name {i : Nat} {x : Str} (hN : X.N.Nodup) (hi : X.N[i]? = some x) (hx : Loc X.env.scope x) (hm : i ∈ ix := by decide) (hf : X.fn x = true ∨ X.env.scope.names.lookup x = some .local := by first | exact .inl rfl | exact .inr rfl | assumption) : QG X g ix (.Name x pos) (gName i) (qName i) :=
  ⟨pg_name hN hi hx hf, fun N F P S b σ H env v d k Q R r hq hk => hk _ _ (R.putSh r) (Outside.set hm) hq⟩
def qgNil : TGsq := fun ds env k => ds = [] ∧ k env
def qgCons (t : TGq) (u : TGsq) : TGsq := fun ds env k => ∃ d r, ds = d :: r ∧ t d env fun env1 => u r env1 k
theorem qgs_nil : QGs X g ix [] gNil qgNil := ⟨pgs_nil, fun N F P S b σ H env vs ds k Q R r hq hk => by
  obtain ⟨rfl, h⟩ := hq
  cases r
  exact ⟨rfl, hk σ env R Outside.refl h⟩⟩
theorem qgs_cons {t : TG} {u : TGs} {qt : TGq} {qu : TGsq} (h1 : QG X g ix e t qt) (h2 : QGs X g ix es u qu) (hs : (assignEach (e :: es) X.env).map (·.2) = assign e X.env :: (assignEach es X.env).map (·.2) := by rfl) : QGs X g ix (e :: es) (gCons t u) (qgCons qt qu) :=
  ⟨pgs_cons h1.pg h2.pgs hs, fun N F P S b σ H env vs ds k Q R r hq hk => by
    obtain ⟨d, ds', rfl, h⟩ := hq
    cases r with
    | cons r rs => exact ⟨_, _, rfl, h1.sm N F P S b σ H env _ _ _ _ R r h fun σ1 env1 R1 o1 k1 => h2.sm N F P S b σ1 H env1 _ _ _ _ R1 rs k1 fun σ2 env2 R2 o2 k2 => hk σ2 env2 R2 (o1.trans o2) k2⟩⟩
def qgTup (n : Nat) (t : TGsq) : TGq := fun d env k => ∃ ds, d = .tup ds ∧ ds.length = n ∧ t ds env k
theorem qg_tup {k : Nat} {t : TGs} {q : TGsq} {n : Nat} (hc : X.calm = true) (h : QGs X g ix es t q) (hn : (assignEach es X.env).length = n := by rfl) (hst : (assignEach es X.env).findIdx? (·.1) = none := by rfl) : QG X g ix (.Tuple es k pos) (gTup X.K n t) (qgTup n q) :=
  ⟨pg_tup hc h.pgs hn hst, fun N F P S b σ H env v d k Q R r hq hk => by
    obtain ⟨ds, rfl, hl, hq⟩ := hq
    cases r with
    | tup h1 r1 => exact ⟨_, _, rfl, SqT.of (R.sh _ _ h1), by rw [r1.length]; exact hl, h.sm N F P S b σ H env _ ds k Q R r1 hq hk⟩⟩
end
abbrev TIq := En → (List D → En → Prop) → XQ → Prop
def YldOk (K : Fg) (S H : Hp) (v : V) (d : D) (H' : Hp) : Prop := (H' = H ∧ Rep K S v d) ∨ ∃ (T : Addr) (xs : List V) (ds : List D), v = .ref T ∧ d = .tup ds ∧ H T = none ∧ H' = upd H T (.tup xs) ∧ Reps K S xs ds
def Walks (K : Fg) (F S : Hp) (J : It) (items : List D) : Prop := ∀ (i : Nat) (S1 H1 : Hp), Same S S1 → Same S1 H1 → Same F H1 →
  (∀ d, items[i]? = some d → J.go i H1 ∧ ∀ v H2, J.yld i H1 v H2 → YldOk K S1 H1 v d H2) ∧ (items.length ≤ i → J.stop i H1)
def SmI (c : Cg) (W : WX) (t : TI) (q : TIq) : Prop := ∀ (F P S : Hp) (b : Option Addr) (σ : L2.St) (H : Hp) (env : En) (k : List D → En → Prop) (x : XQ) (R : It → Hp → Prop), Rel c F P S b σ H env → q env k x → XOk c F P b W S x →
  (∀ (S' H' : Hp) (env' : En) (J : It) (items : List D), Rel c F P S' b σ H' env' → Ext P S S' → Walks c.K F S' J items → k items env' → R J H') → t σ H R
structure QI (X : Cx) (g : Gd) (W : WX) (tg iter : Expr) (t : TI) (q : TIq) : Prop where
  pi : PI X tg iter t
  sm : ∀ N, SmI (cg X g N) W t q
theorem Rel.yield {c : Cg} {F P S H H' : Hp} {b : Option Addr} {σ : L2.St} {env : En} {v : V} {d : D} (R : Rel c F P S b σ H env) (h : YldOk c.K S H v d H') : ∃ S', Rel c F P S' b σ H' env ∧ Ext P S S' ∧ Rep c.K S' v d := by
  rcases h with ⟨rfl, h⟩ | ⟨T, xs, ds, rfl, rfl, hT, rfl, r⟩
  · exact ⟨S, R, Ext.refl, h⟩
  · have n := R.new hT
    exact ⟨_, R.allocSh hT, Ext.alloc n.1 n.2.1, .tup upd_same (r.mono (same_upd n.2.1))⟩
def loopQ (g : TGq) (body : TSq) (DQ : Ens) : List D → En → Prop
  | [], env => DQ.nx env
  | d :: ds, env => g d env fun env1 => body { DQ with nx := loopQ g body DQ ds, ct := loopQ g body DQ ds, bk := DQ.nx } env1
def qFor (qi : TIq) (g : TGq) (body : TSq) : TSq := fun DQ env => qi env (fun items env1 => loopQ g body DQ items env1) DQ.ex
theorem sm_for {c : Cg} {W : WX} {ti : TI} {qi : TIq} {t : TG} {ix : List Nat} {q : TGq} {tb : TS} {qb : TSq} (hi : SmI c W ti qi) (hg : SmG c ix t q) (hb : SmS c W tb qb) : SmS c W (tFor ti t tb) (qFor qi q qb) := by
  intro F P S b σ H env DQ D R hq k
  refine hi F P S b σ H env _ _ _ R hq k.ex fun S0 H0 env0 J items R0 e0 wk h0 => ?_
  refine ⟨fun i m σ1 H1 => m = items.length - i ∧ i ≤ items.length ∧ ∃ S1 env1, Rel c F P S1 b σ1 H1 env1 ∧ Ext P S0 S1 ∧ loopQ q qb DQ (items.drop i) env1, ⟨_, rfl, Nat.zero_le _, S0, env0, R0, Ext.refl, h0⟩, ?_⟩
  rintro i m σ1 H1 ⟨rfl, hil, S1, env1, R1, e1, h1⟩
  obtain ⟨w1, w2⟩ := wk i S1 H1 e1.1 R1.sh R1.fh
  by_cases hlt : i < items.length
  · obtain ⟨go, yld⟩ := w1 items[i] (List.getElem?_eq_getElem hlt)
    refine .inr ⟨go, fun σ2 H2 => ∃ S2 env2, Rel c F P S2 b σ2 H2 env2 ∧ Ext P S0 S2 ∧ loopQ q qb DQ (items.drop (i + 1)) env2, fun σ2 H2 ⟨S2, env2, R2, e2, h2⟩ => ⟨items.length - (i + 1), by omega, rfl, hlt, S2, env2, R2, e2, h2⟩, fun v H2 y => ?_⟩
    obtain ⟨S2, R2, e2, r2⟩ := R1.yield (yld v H2 y)
    rw [List.drop_eq_getElem_cons hlt] at h1
    refine hg F P S2 b σ1 H2 env1 v _ _ _ R2 r2 h1 fun σ3 env3 R3 _ h3 => ?_
    refine hb F P S2 b σ3 H2 env3 _ _ R3 h3 ⟨fun S4 σ4 H4 env4 R4 e4 h4 => ⟨S4, env4, R4, e1.trans (e2.trans e4), h4⟩, fun S4 σ4 H4 env4 v r R4 e4 ro h4 => k.rt S4 σ4 H4 env4 v r R4 (e0.trans (e1.trans (e2.trans e4))) ro h4,
      fun S4 σ4 H4 env4 R4 e4 h4 => k.nx S4 σ4 H4 env4 R4 (e0.trans (e1.trans (e2.trans e4))) h4, fun S4 σ4 H4 env4 R4 e4 h4 => ⟨S4, env4, R4, e1.trans (e2.trans e4), h4⟩, k.ex.mono (e0.trans (e1.trans e2))⟩
  · have e : i = items.length := by omega
    subst e
    rw [List.drop_length] at h1
    exact .inl ⟨w2 (Nat.le_refl _), k.nx S1 σ1 H1 env1 R1 (e0.trans e1) h1⟩
section
variable {X : Cx} {g : Gd} {W : WX} {tg iter e a b : Expr} {es : List Expr} {sts : List Stmt} {pos p : Pos} {c : Cg} {ix : List Nat} {ti : TI} {qi : TIq} {t : TG} {q : TGq} {tb : TS} {qb : TSq} {te : TE} {qe : TEq} {tl : TA} {ql : TAq} {tt : TT} {qt : TTq}
theorem qs_for (ix : List Nat) (hi : QI X g W tg iter ti qi) (hg : QG X g ix tg t q) (hb : QSs X g W sts tb qb) (hp : PassesOwn (model X.prog X.w) X.A X.env X.xe) (hc : X.calm = true := by rfl) (hs : ∀ x, foldedSetIterable iter X.env x = pure x := by intro _; rfl) :
    QS X g W (.For tg iter sts [] pos) (tFor ti t tb) (qFor qi q qb) := ⟨ps_for hp hc hi.pi hg.pg hb.pss hs, fun N => sm_for (hi.sm N) (hg.sm N) (hb.sm N)⟩
def iSeq (K : Fg) (tl : TE) : TI := fun σ H R => tl σ H fun x H1 => ∃ a, x = .ref a ∧ (((∃ xs, SqL K H1 a xs) ∧ R (Itl K a) H1) ∨ ((∃ xs, SqT K H1 a xs) ∧ R (Itt K a) H1))
theorem pi_seq {l : Expr} {tl : TE} (hl : PE X l tl) : PI X tg l (iSeq X.K tl) := by
  refine ⟨fun pins s σ H R I h => ?_⟩
  refine thn (hl.run pins s σ H _ I h) fun v s1 ⟨x, H1, I1, r1, q1⟩ => ?_
  obtain ⟨a, e, q1⟩ := q1
  subst e
  cases r1
  have hf : ∀ b ∈ [s1.heap.objs.size], FpOk X pins H1 b := fun b hb => by
    have e : b = s1.heap.objs.size := by simpa using hb
    subst e
    exact I1.fpOk (Nat.le_refl _) (I1.hok.fresh (Nat.le_refl _))
  rcases q1 with ⟨⟨xs, hq⟩, q⟩ | ⟨⟨xs, hq⟩, q⟩
  · obtain ⟨its, rv, p, hz⟩ := I1.list hq
    refine wpAny_pyIter_list p.isList ?_
    exact ⟨s1.heap.objs.size, [s1.heap.objs.size], _, _, H1, rfl, I1.kept (t' := s1.toks) fun b o e => Heap.get?_push_of_some _ e, turn_list a _, ⟨_, Heap.get?_push_size _ rfl, rfl, rfl⟩, hf, q⟩
  · obtain ⟨its, rv, p, hz⟩ := I1.tuple hq
    refine wpAny_pyIter_tuple (show s1.heap.IsTuple a its.toArray from p) ?_
    exact ⟨s1.heap.objs.size, [s1.heap.objs.size], _, _, H1, rfl, I1.kept (t' := s1.toks) fun b o e => Heap.get?_push_of_some _ e, turn_tuple a _, ⟨_, Heap.get?_push_size _ rfl, rfl, rfl⟩, hf, q⟩
def dItems : D → Option (List D)
  | .lst ds => some ds
  | .tup ds => some ds
  | .scr ns => some (ns.map .int)
  | _ => none
def itemsV (env : En) : Va → Option (List D × En)
  | .d d => (dItems d).map fun ds => (ds, env)
  | .ptr i => match env[i]? with
    | some (.sh d) => (dItems d).map fun ds => (ds, env)
    | some (.own d) => (dItems d).map fun ds => (ds, env.set i (.sh d))
    | some (.bor d) => (dItems d).map fun ds => (ds, env)
    | _ => none
  | .bag _ => none
theorem walk_l {K : Fg} {S1 H1 : Hp} {a : Addr} {ys : List V} {items : List D} {i : Nat} (h1 : SqL K H1 a ys) (r1 : Reps K S1 ys items) :
    (∀ d, items[i]? = some d → (Itl K a).go i H1 ∧ ∀ v H2, (Itl K a).yld i H1 v H2 → YldOk K S1 H1 v d H2) ∧ (items.length ≤ i → (Itl K a).stop i H1) := by
  refine ⟨fun d hd => ?_, fun hl => ⟨ys, h1, by rw [r1.length]; exact hl⟩⟩
  obtain ⟨v, hv, hr⟩ := r1.get hd
  exact ⟨⟨ys, v, h1, hv⟩, fun u H2 y => .inl ⟨y.1, by
    have := y.2 ys h1
    rw [hv] at this; cases this; exact hr⟩⟩
theorem walks_at {K : Fg} {F S H0 : Hp} {v : V} {d : D} {items : List D} (h : At K S H0 v d) (hi : dItems d = some items) (hs : (∀ S1 H1, Same S S1 → Same S1 H1 → Same F H1 → At K S1 H1 v d)) :
    ∃ a, v = .ref a ∧ (((∃ xs, SqL K H0 a xs) ∧ Walks K F S (Itl K a) items) ∨ ((∃ xs, SqT K H0 a xs) ∧ Walks K F S (Itt K a) items)) := by
  cases h with
  | non => cases hi
  | bl _ => cases hi
  | int _ => cases hi
  | str _ => cases hi
  | dct _ _ => cases hi
  | exc _ _ => cases hi
  | dcT _ _ _ => cases hi
  | obj _ _ _ _ => cases hi
  | @lst a xs ds h r =>
    cases hi
    refine ⟨a, rfl, .inl ⟨⟨xs, SqL.of h⟩, fun i S1 H1 s1 s2 s3 => ?_⟩⟩
    cases hs S1 H1 s1 s2 s3 with
    | @lst _ ys _ h1 r1 => exact walk_l (SqL.of h1) r1
  | @scr a ns h =>
    cases hi
    refine ⟨a, rfl, .inl ⟨⟨_, h⟩, fun i S1 H1 s1 s2 s3 => ?_⟩⟩
    cases hs S1 H1 s1 s2 s3 with
    | scr h1 => exact walk_l h1 (Reps.of_ints ns)
  | @tup a xs ds h r =>
    cases hi
    refine ⟨a, rfl, .inr ⟨⟨xs, SqT.of h⟩, fun i S1 H1 s1 s2 s3 => ?_⟩⟩
    cases hs S1 H1 s1 s2 s3 with
    | @tup _ ys _ h1 r1 =>
      replace h1 : SqT K H1 a ys := SqT.of h1
      refine ⟨fun d hd => ?_, fun hl => ⟨ys, h1, by rw [r1.length]; exact hl⟩⟩
      obtain ⟨v, hv, hr⟩ := r1.get hd
      exact ⟨⟨ys, v, h1, hv⟩, fun u H2 y => .inl ⟨y.1, by
        have := y.2 ys h1
        rw [hv] at this; cases this; exact hr⟩⟩
theorem itemsV_ok {F P S H : Hp} {bb : Option Addr} {σ : L2.St} {env env2 : En} {v : V} {y : Va} {items : List D} (R : Rel c F P S bb σ H env) (r : RV c.K S σ bb v y) (h : itemsV env y = some (items, env2)) :
    ∃ S2 d, Rel c F P S2 bb σ H env2 ∧ Ext P S S2 ∧ dItems d = some items ∧ At c.K S2 H v d ∧ ∀ S1 H1, Same S2 S1 → Same S1 H1 → Same F H1 → At c.K S1 H1 v d := by
  cases y with
  | bag _ => cases h
  | d d =>
    cases e : dItems d with
    | none => simp [itemsV, e] at h
    | some ds =>
      simp [itemsV, e] at h
      obtain ⟨rfl, rfl⟩ := h
      exact ⟨S, d, R, Ext.refl, e, .of_rep R.sh r, fun S1 H1 s1 s2 _ => .of_rep s2 (Rep.mono s1 r)⟩
  | ptr i =>
    have r' : σ[i]? = some (some v) := r
    unfold itemsV at h
    simp only at h
    cases e : env[i]? with
    | none => rw [e] at h; cases h
    | some s =>
      rw [e] at h
      have hs := R.sl i s _ e r'
      cases s with
      | no => cases h
      | bag _ => cases h
      | sh d =>
        cases e2 : dItems d with
        | none => simp [e2] at h
        | some ds =>
          simp [e2] at h
          obtain ⟨rfl, rfl⟩ := h
          exact ⟨S, d, R, Ext.refl, e2, .of_rep R.sh hs, fun S1 H1 s1 s2 _ => .of_rep s2 (Rep.mono s1 hs)⟩
      | bor d =>
        cases e2 : dItems d with
        | none => simp [e2] at h
        | some ds =>
          simp [e2] at h
          obtain ⟨rfl, rfl⟩ := h
          exact ⟨S, d, R, Ext.refl, e2, At.mono (Same.refl _) R.fh hs, fun S1 H1 s1 _ s3 => At.mono s1 s3 hs⟩
      | own d =>
        cases e2 : dItems d with
        | none => simp [e2] at h
        | some ds =>
          simp [e2] at h
          obtain ⟨rfl, rfl⟩ := h
          obtain ⟨p, rfl, hp, hS, hb, ho⟩ := hs
          obtain ⟨o, hpo⟩ := ho.some
          have rp := ho.rep (S0 := S) hpo hS
          have R2 := R.freeze r' e hpo
          exact ⟨_, d, R2, Ext.alloc hp hS, e2, .of_rep R2.sh rp, fun S1 H1 s1 s2 _ => .of_rep s2 (Rep.mono s1 rp)⟩
def qSeqI (q : TEq) : TIq := fun env k x => q env (fun y env1 => ∃ items env2, itemsV env1 y = some (items, env2) ∧ k items env2) x
theorem sm_seqI (h : Sm c W te qe) : SmI c W (iSeq c.K te) (qSeqI qe) := by
  intro F P S b σ H env k x R Rl hq hx hk
  refine h F P S b σ H env _ x _ Rl hq hx fun S1 H1 env1 v y R1 e1 r1 h1 => ?_
  obtain ⟨items, env2, hi, h2⟩ := h1
  obtain ⟨S2, d, R2, e2, hd, ha, hw⟩ := itemsV_ok R1 r1 hi
  obtain ⟨a, rfl, z⟩ := walks_at (F := F) ha hd hw
  refine ⟨a, rfl, ?_⟩
  rcases z with ⟨z1, z3⟩ | ⟨z1, z3⟩
  · exact .inl ⟨z1, hk S2 H1 env2 _ items R2 (e1.trans e2) z3 h2⟩
  · exact .inr ⟨z1, hk S2 H1 env2 _ items R2 (e1.trans e2) z3 h2⟩
theorem qi_seq (h : QE X g W iter te qe) : QI X g W tg iter (iSeq X.K te) (qSeqI qe) := ⟨pi_seq h.pe, fun N => sm_seqI (h.sm N)⟩
def ranged (lo : Int) (n : Nat) : List D := (List.range n).map fun i => .int (lo + (i : Nat))
theorem ranged_length (lo : Int) (n : Nat) : (ranged lo n).length = n := by simp [ranged]
theorem walks_range {K : Fg} {F S : Hp} (lo : Int) (n : Nat) : Walks K F S (Itr lo n) (ranged lo n) := by
  intro i S1 H1 _ _ _
  refine ⟨fun d hd => ?_, fun hl => by rw [ranged_length] at hl; exact hl⟩
  have hi : i < n := by
    have := (List.getElem?_eq_some_iff.mp hd).1
    rw [ranged_length] at this; exact this
  have e : d = .int (lo + (i : Nat)) := by
    unfold ranged at hd
    rw [List.getElem?_map, List.getElem?_range hi] at hd
    exact (Option.some.inj hd).symm
  subst e
  exact ⟨hi, fun v H2 y => .inl ⟨y.1, by rw [y.2]; exact .int _⟩⟩
def qRng1 (ql : TAq) : TIq := fun env k x => ql env (fun ys env1 => ∃ j : Int, ress env1 ys = some [.int j] ∧ -4000000000000000000 ≤ j ∧ j < 4000000000000000000 ∧ k (ranged 0 j.toNat) env1) x
theorem qi_range1 (hg : Gl X "range") (hm : X.mg "range" = none) (ha : QA X g W [a] tl ql) (hs : starEach [a] X.env = [(false, eval a X.env)] := by rfl) : QI X g W tg (.Call (.Name "range" p) [a] [] pos) (iRng1 tl) (qRng1 ql) :=
  ⟨pi_range1 hg hm ha.pa hs, fun N F P S b σ H env k x R Rl hq hx hk => by
    refine ha.sm N F P S b σ H env _ x _ Rl hq hx fun S1 H1 env1 vs ys R1 e1 r1 h1 => ?_
    obtain ⟨j, hj, h2, h3, h4⟩ := h1
    have z := R1.reads r1 hj
    cases z with
    | cons z1 z2 =>
      cases z2
      cases z1
      exact ⟨j, rfl, by omega, by omega, hk S1 H1 env1 _ _ R1 e1 (walks_range 0 j.toNat) h4⟩⟩
def qRng2 (ql : TAq) : TIq := fun env k x => ql env (fun ys env1 => ∃ i j : Int, ress env1 ys = some [.int i, .int j] ∧ (-4000000000000000000 ≤ i ∧ i < 4000000000000000000 ∧ -4000000000000000000 ≤ j ∧ j < 4000000000000000000) ∧ k (ranged i (j - i).toNat) env1) x
theorem qi_range2 (hg : Gl X "range") (hm : X.mg "range" = none) (ha : QA X g W [a, b] tl ql) (hs : starEach [a, b] X.env = [(false, eval a X.env), (false, eval b X.env)] := by rfl) (hs2 : starEach [b] X.env = [(false, eval b X.env)] := by rfl) : QI X g W tg (.Call (.Name "range" p) [a, b] [] pos) (iRng2 tl) (qRng2 ql) :=
  ⟨pi_range2 hg hm ha.pa hs hs2, fun N F P S b σ H env k x R Rl hq hx hk => by
    refine ha.sm N F P S b σ H env _ x _ Rl hq hx fun S1 H1 env1 vs ys R1 e1 r1 h1 => ?_
    obtain ⟨i, j, hj, h2, h4⟩ := h1
    have z := R1.reads r1 hj
    cases z with
    | cons z1 z2 =>
      cases z2 with
      | cons z2 z3 =>
        cases z3
        cases z1
        cases z2
        exact ⟨i, j, rfl, by omega, hk S1 H1 env1 _ _ R1 e1 (walks_range i _) h4⟩⟩

def whileQ (cd : TTq) (body : TSq) (DQ : Ens) : Nat → En → Prop
  | 0, _ => False
  | n + 1, env => cd env (fun y env1 => if y = true then body { DQ with nx := whileQ cd body DQ n, ct := whileQ cd body DQ n, bk := DQ.nx } env1 else DQ.nx env1) DQ.ex
def qWhile (cd : TTq) (body : TSq) : TSq := fun DQ env => ∃ n, whileQ cd body DQ n env
theorem sm_while (hc : SmT c W tt qt) (hb : SmS c W tb qb) : SmS c W (tWhile tt tb) (qWhile qt qb) := by
  intro F P S b σ H env DQ D R hq k
  obtain ⟨n, hq⟩ := hq
  refine ⟨fun m σ1 H1 => ∃ S1 env1, Rel c F P S1 b σ1 H1 env1 ∧ Ext P S S1 ∧ whileQ qt qb DQ m env1, ⟨n, S, env, R, Ext.refl, hq⟩, ?_⟩
  rintro m σ1 H1 ⟨S1, env1, R1, e1, h1⟩
  cases m with
  | zero => exact h1.elim
  | succ m =>
    refine hc F P S1 b σ1 H1 env1 _ _ _ R1 h1 (k.ex.mono e1) fun S2 H2 env2 y R2 e2 h2 => ?_
    cases y with
    | true =>
      rw [if_pos rfl] at h2 ⊢
      refine ⟨fun σ3 H3 => ∃ S3 env3, Rel c F P S3 b σ3 H3 env3 ∧ Ext P S S3 ∧ whileQ qt qb DQ m env3, fun σ3 H3 w => ⟨m, Nat.lt_succ_self m, w⟩, ?_⟩
      exact hb F P S2 b σ1 H2 env2 _ _ R2 h2 ⟨fun S4 σ4 H4 env4 R4 e4 h4 => ⟨S4, env4, R4, e1.trans (e2.trans e4), h4⟩, fun S4 σ4 H4 env4 v r R4 e4 ro h4 => k.rt S4 σ4 H4 env4 v r R4 (e1.trans (e2.trans e4)) ro h4,
        fun S4 σ4 H4 env4 R4 e4 h4 => k.nx S4 σ4 H4 env4 R4 (e1.trans (e2.trans e4)) h4, fun S4 σ4 H4 env4 R4 e4 h4 => ⟨S4, env4, R4, e1.trans (e2.trans e4), h4⟩, k.ex.mono (e1.trans e2)⟩
    | false =>
      rw [if_neg Bool.false_ne_true] at h2 ⊢
      exact k.nx S2 σ1 H2 env2 R2 (e1.trans e2) h2
theorem qs_while {cd : Expr} (hc : QT X g W cd tt qt) (hb : QSs X g W sts tb qb) (hp : PassesOwn (model X.prog X.w) X.A X.env X.xe) : QS X g W (.While cd sts [] pos) (tWhile tt tb) (qWhile qt qb) := ⟨ps_while hp hc.pt hb.pss, fun N => sm_while (hc.sm N) (hb.sm N)⟩
end
end Q
set_option Elab.async false
set_option linter.all false
set_option maxRecDepth 100000
set_option maxHeartbeats 2000000
set_option autoImplicit false
namespace Q
open PySem PySem.Spec PyProof.Rows L2
def wipeE (env : En) : List Nat → En
  | [] => env
  | v :: vs => (wipeE env vs).set v .no
theorem wipeE_length (env : En) : ∀ vs : List Nat, (wipeE env vs).length = env.length
  | [] => rfl
  | v :: vs => by unfold wipeE; rw [List.length_set, wipeE_length env vs]
theorem wipeE_get (env : En) : ∀ (vs : List Nat) (j : Nat) (s : Sl), (wipeE env vs)[j]? = some s → (j ∈ vs ∧ s = .no) ∨ (j ∉ vs ∧ env[j]? = some s)
  | [], j, s, h => .inr ⟨by simp, h⟩
  | v :: vs, j, s, h => by
    unfold wipeE at h
    rcases getElem?_set' h with ⟨e, e2, _⟩ | ⟨e, e2⟩
    · exact .inl ⟨by simp [e], e2⟩
    · rcases wipeE_get env vs j s e2 with ⟨a, b⟩ | ⟨a, b⟩
      · exact .inl ⟨by simp [a], b⟩
      · exact .inr ⟨by simp [e, a], b⟩
theorem wipe_get (σ : L2.St) : ∀ (vs : List Nat) (j : Nat), j ∉ vs → (wipe σ vs)[j]? = σ[j]?
  | [], _, _ => rfl
  | v :: vs, j, h => by
    simp only [List.mem_cons, not_or] at h
    unfold wipe
    rw [List.getElem?_set_ne (fun e => h.1 e.symm)]
    exact wipe_get σ vs j h.2
theorem wipe_in (σ : L2.St) : ∀ (vs : List Nat) (j : Nat), j ∈ vs → j < σ.length → (wipe σ vs)[j]? = some none
  | [], _, h, _ => by simp at h
  | v :: vs, j, h, hl => by
    unfold wipe
    by_cases e : j = v
    · subst e
      rw [List.getElem?_set_self (by rw [wipe_length]; exact hl)]
    · rw [List.getElem?_set_ne (fun z => e z.symm)]
      refine wipe_in σ vs j ?_ hl
      simp only [List.mem_cons] at h
      exact h.resolve_left e
theorem wipe_eq {σ σ2 : L2.St} {vs : List Nat} (o : Outside vs (wipe σ vs) σ2) : wipe σ2 vs = wipe σ vs := by
  refine List.ext_getElem? fun j => ?_
  have hl : σ2.length = σ.length := o.1.trans (wipe_length σ vs)
  by_cases h : j ∈ vs
  · by_cases hj : j < σ.length
    · rw [wipe_in σ vs j h hj, wipe_in σ2 vs j h (by omega)]
    · rw [List.getElem?_eq_none (by rw [wipe_length]; omega), List.getElem?_eq_none (by rw [wipe_length]; omega)]
  · rw [wipe_get σ2 vs j h]
    exact o.2 j h
theorem Outside.mono {ix vs : List Nat} {σ σ' : L2.St} (o : Outside ix σ σ') (h : ∀ i ∈ ix, i ∈ vs) : Outside vs σ σ' := ⟨o.1, fun j hj => o.2 j fun z => hj (h j z)⟩
section
variable {c : Cg} {F P S H : Hp} {b : Option Addr} {σ : L2.St} {env : En} {vs : List Nat} {D' : Addr} {o o' : HO}
theorem bud_wipe (env : En) : ∀ vs : List Nat, bud (wipeE env vs) ≤ bud env
  | [] => Nat.le_refl _
  | v :: vs => Nat.le_trans (bud_le _ v .no rfl) (bud_wipe env vs)
theorem Rel.wipe (R : Rel c F P S b σ H env) : Rel c F P S b (wipe σ vs) H (wipeE env vs) := by
  refine ⟨by rw [wipeE_length, wipe_length]; exact R.len, R.fp, R.ph, R.sh, fun p e => ⟨(R.bg p e).1, (R.bg p e).2.1, (R.bg p e).2.2.mono (Same.refl _) rfl (bud_wipe env vs)⟩, fun i s v h1 h2 => ?_, fun i j p d d' hij h1 h2 h3 h4 => ?_⟩
  · rcases wipeE_get env vs i s h1 with ⟨a, e⟩ | ⟨a, e⟩
    · subst e; trivial
    · rw [wipe_get σ vs i a] at h2
      exact R.sl i s v e h2
  · rcases wipeE_get env vs i _ h2 with ⟨a, e⟩ | ⟨a, e⟩
    · cases e
    · rcases wipeE_get env vs j _ h4 with ⟨a', e'⟩ | ⟨a', e'⟩
      · cases e'
      · rw [wipe_get σ vs i a] at h1
        rw [wipe_get σ vs j a'] at h3
        exact R.ap i j p d d' hij h1 e h3 e'
theorem Rel.unwipe (R : Rel c F P S b (L2.wipe σ vs) H env) (hv : ∀ j ∈ vs, ∀ s, env[j]? = some s → s = .no) : Rel c F P S b σ H env := by
  have nv : ∀ (j : Nat) (s : Sl), env[j]? = some s → s ≠ .no → j ∉ vs := fun j s h hn z => hn (hv j z s h)
  refine ⟨by rw [← wipe_length σ vs]; exact R.len, R.fp, R.ph, R.sh, R.bg, fun i s v h1 h2 => ?_, fun i j p d d' hij h1 h2 h3 h4 => ?_⟩
  · cases s with
    | no => trivial
    | sh d => exact R.sl i _ v h1 (by rw [wipe_get σ vs i (nv i _ h1 (by simp))]; exact h2)
    | own d => exact R.sl i _ v h1 (by rw [wipe_get σ vs i (nv i _ h1 (by simp))]; exact h2)
    | bor d => exact R.sl i _ v h1 (by rw [wipe_get σ vs i (nv i _ h1 (by simp))]; exact h2)
    | bag _ => exact R.sl i _ v h1 (by rw [wipe_get σ vs i (nv i _ h1 (by simp))]; exact h2)
  · exact R.ap i j p d d' hij (by rw [wipe_get σ vs i (nv i _ h2 (by simp))]; exact h1) h2 (by rw [wipe_get σ vs j (nv j _ h4 (by simp))]; exact h3) h4
theorem Rel.reguard (R : Rel c F (upd P D' o) S b σ H env) (hp : P D' = none) (hf : F D' = none) (hs : S D' = none) (hb : b ≠ some D') : Rel c F (upd P D' o') S b σ (upd H D' o') env := by
  have hfp : Same F P := fun a u e => by
    have := R.fp a u e
    rw [upd_ne (fun z => by rw [z, hf] at e; cases e)] at this
    exact this
  have up : ∀ q, q ≠ D' → upd P D' o' q = upd P D' o q := fun q h => by rw [upd_ne h, upd_ne h]
  refine ⟨R.len, hfp.trans (same_upd hp), fun a u e => ?_, fun a u e => ?_, fun q e => ?_, fun j s' v' h3 h4 => ?_, R.ap⟩
  · by_cases h : a = D'
    · subst h; rw [upd_same] at e ⊢; exact e
    · rw [up a h] at e
      rw [upd_ne h]; exact R.ph a u e
  · rw [upd_ne (fun z => by rw [z, hs] at e; cases e)]; exact R.sh a u e
  · obtain ⟨a1, a2, a3⟩ := R.bg q e
    have ne : q ≠ D' := fun z => hb (z ▸ e)
    exact ⟨by rw [up q ne]; exact a1, a2, a3.mono (Same.refl _) (upd_ne ne) (Nat.le_refl _)⟩
  · have h := R.sl j s' v' h3 h4
    cases s' with
    | no => trivial
    | sh d => cases v' <;> exact h
    | bor d => cases v' <;> exact h
    | bag _ => cases v' <;> exact h
    | own d' =>
      cases v' with
      | none => exact h
      | some v =>
        obtain ⟨q, rfl, h5, h6, h7, h8⟩ := h
        have ne : q ≠ D' := fun z => by rw [z, upd_same] at h5; cases h5
        exact ⟨q, rfl, by rw [up q ne]; exact h5, h6, h7, h8.mono (Same.refl _) (upd_ne ne)⟩
end
def compQ (g : TGq) (tt : TTq) (te : TEq) (vs : List Nat) : List D → List D → En → (List D → En → Prop) → Prop
  | [], acc, env, k => k acc env
  | d :: ds, acc, env, k => g d env fun env1 => tt env1 (fun y env2 => if y = true then te env2 (fun y env3 => ∃ e env4, sh1 env3 y = some (e, env4) ∧ acc.length < 10000000 ∧ compQ g tt te vs ds (acc ++ [e]) (wipeE env4 vs) k) (fun _ _ _ => False)
      else compQ g tt te vs ds acc (wipeE env2 vs) k) fun _ _ _ => False
def qLc (qi : TIq) (g : TGq) (tt : TTq) (te : TEq) (vs : List Nat) : TNq := fun env k x => qi env (fun items env1 => compQ g tt te vs items [] (wipeE env1 vs) fun acc env2 => k (.own (.lst acc)) env2) x
abbrev W0 : WX := fun _ _ _ _ => False
theorem sm_lc {c : Cg} {W : WX} {ti : TI} {qi : TIq} {t : TG} {ix vs : List Nat} {q : TGq} {tt : TT} {qt : TTq} {te : TE} {qe : TEq} (hi : SmI c W ti qi) (hg : SmG c ix t q) (hx : ∀ i ∈ ix, i ∈ vs) (ht : SmT c W0 tt qt) (he : Sm c W0 te qe) : SmN c W (tLc ti t tt te vs) (qLc qi q qt qe vs) := by
  intro F P S b σ H env k x Q R hq hxx hk
  refine hi F P S b σ H env _ x _ R hq hxx fun S0 H0 env0 J items R0 e0 wk h0 => ?_
  intro D' hD
  have n0 := R0.new hD
  have hF : F D' = none := R0.fh.free hD
  have dn : ∀ (i : Nat) (s : Sl), (wipeE env0 vs)[i]? = some s → i ∈ vs → s = .no := fun i s h hm => by
    rcases wipeE_get env0 vs i s h with ⟨_, e⟩ | ⟨a, _⟩
    · exact e
    · exact absurd hm a
  let Iv (i : Nat) (H1 : Hp) : Prop := ∃ (S1 : Hp) (env1 : En) (acc : List V) (accD : List D), Rel c F (upd P D' (.lst acc)) S1 b (wipe σ vs) H1 env1 ∧ Ext P S0 S1 ∧ S1 D' = none ∧ Reps c.K S1 acc accD ∧ (∀ j ∈ vs, ∀ s, env1[j]? = some s → s = .no) ∧
      compQ q qt qe vs (items.drop i) accD env1 fun acc env2 => k (.own (.lst acc)) env2
  refine ⟨fun i m H1 => m = items.length - i ∧ i ≤ items.length ∧ Iv i H1, ⟨_, rfl, Nat.zero_le _, S0, wipeE env0 vs, [], [], ?_, Ext.refl, n0.2.1, .nil, fun j hj s h => dn j s h hj, h0⟩, ?_⟩
  · exact (((R0.alloc hD).guard n0.1 upd_same n0.2.1 n0.2.2 (R0.notOwn hD)).wipe (vs := vs))
  rintro i m H1 ⟨rfl, hil, S1, env1, acc, accD, R1, e1, hS1, r1, hw, h1⟩
  have hH1 : H1 D' = some (.lst acc) := R1.ph D' _ upd_same
  obtain ⟨w1, w2⟩ := wk i S1 H1 e1.1 R1.sh R1.fh
  have extP : ∀ {o : HO} {A B : Hp}, Ext (upd P D' o) A B → Ext P A B := fun {o A B} z => ⟨z.1, fun a h1 h2 => z.2 a h1 (by
    by_cases e : a = D'
    · subst e; rw [upd_same]; simp
    · rw [upd_ne e]; exact h2)⟩
  by_cases hlt : i < items.length
  · obtain ⟨go, yld⟩ := w1 items[i] (List.getElem?_eq_getElem hlt)
    refine .inr ⟨go, Iv (i + 1), fun H2 w => ⟨items.length - (i + 1), by omega, rfl, hlt, w⟩, fun v H2 y => ?_⟩
    obtain ⟨S2, R2, e2, r2⟩ := R1.yield (yld v H2 y)
    have hS2 : S2 D' = none := e2.2 D' hS1 (by rw [upd_same]; simp)
    rw [List.drop_eq_getElem_cons hlt] at h1
    refine hg F _ S2 b (wipe σ vs) H2 env1 v _ _ _ R2 r2 h1 fun σ3 env3 R3 o3 h3 => ?_
    have we : wipe σ3 vs = wipe σ vs := wipe_eq (o3.mono hx)
    refine ⟨we, ?_⟩
    refine ht F _ S2 b σ3 H2 env3 _ _ _ R3 h3 XOk.no fun S4 H4 env4 y4 R4 e4 h4 => ?_
    have hS4 : S4 D' = none := e4.2 D' hS2 (by rw [upd_same]; simp)
    have fin : ∀ (E : En) (j : Nat), j ∈ vs → ∀ s, (wipeE E vs)[j]? = some s → s = .no := fun E j hj s h => by
      rcases wipeE_get E vs j s h with ⟨_, e⟩ | ⟨a, _⟩
      · exact e
      · exact absurd hj a
    cases y4 with
    | false =>
      rw [if_neg Bool.false_ne_true] at h4 ⊢
      exact ⟨S4, wipeE env4 vs, acc, accD, by rw [← we]; exact R4.wipe, e1.trans ((extP e2).trans (extP e4)), hS4, r1.mono (e2.1.trans e4.1), fin env4, h4⟩
    | true =>
      rw [if_pos rfl] at h4 ⊢
      refine he F _ S4 b σ3 H4 env4 _ _ _ R4 h4 XOk.no fun S5 H5 env5 v5 y5 R5 e5 r5 h5 => ?_
      obtain ⟨ed, env6, hs, hl, h6⟩ := h5
      obtain ⟨S6, R6, e6, r6⟩ := sh1_ok R5 r5 hs
      have hS6 : S6 D' = none := e6.2 D' (e5.2 D' hS4 (by rw [upd_same]; simp)) (by rw [upd_same]; simp)
      have acc6 : Reps c.K S6 acc accD := r1.mono (e2.1.trans (e4.1.trans (e5.1.trans e6.1)))
      refine ⟨acc, R6.ph D' _ upd_same, by rw [acc6.length]; exact size_lt hl, S6, wipeE env6 vs, acc ++ [v5], accD ++ [ed], ?_, e1.trans ((extP e2).trans ((extP e4).trans ((extP e5).trans (extP e6)))), hS6, acc6.append (.cons r6 .nil), fin env6, h6⟩
      rw [← we]
      exact (R6.reguard n0.1 hF hS6 n0.2.2).wipe
  · have e : i = items.length := by omega
    subst e
    rw [List.drop_length] at h1
    refine .inl ⟨w2 (Nat.le_refl _), ?_⟩
    have R2 : Rel c F P S1 b σ H1 env1 := (R1.unguard n0.1 R0.fp).unwipe hw
    refine hk S1 H1 env1 (.ref D') (.own (.lst accD)) R2 (e0.trans e1) ⟨D', rfl, n0.1, hS1, n0.2.2, .lst hH1 r1⟩ (fun d _ j ed p hp h2 h3 => ?_) h1
    cases hp
    have nj : j ∉ vs := fun z => by cases hw j z _ h3
    obtain ⟨a1, _⟩ := R1.ownAt (by rw [wipe_get σ vs j nj]; exact h2) h3
    rw [upd_same] at a1; cases a1

structure QTs (X : Cx) (g : Gd) (ifs : List Expr) (t : TT) (q : TTq) : Prop where
  pts : PTs X ifs t
  sm : ∀ N, SmT (cg X g N) W0 t q
def qYes : TTq := fun env k _ => k true env
section
variable {X : Cx} {g : Gd} {W : WX} {tg iter elt : Expr} {ifs : List Expr} {scope : Scope} {own : List (Str × Nat)} {ti : TI} {qi : TIq} {t : TG} {q : TGq} {tt : TT} {qt : TTq} {te : TE} {qe : TEq} {pos : Pos}
theorem qts_nil : QTs X g [] tYes qYes := ⟨pts_nil, fun N F P S b σ H env k x Q R hq _ hk => hk S H env true R Ext.refl hq⟩
theorem qts_one {cd : Expr} (h : QT X g W0 cd tt qt) : QTs X g [cd] tt qt := ⟨pts_one h.pt, h.sm⟩
theorem qn_lc (own : List (Str × Nat)) (hc : X.calm = true) (hN : X.N.Nodup) (hi : QI X g W tg iter ti qi) (ok : BlkOk X.N X.env.scope scope own)
    (hg : ∀ (s : Shared) (H : Hp) (C : Addr) (cl : List (Str × Addr)) (fp : List Addr), QG (X.blk s H scope (compEnvC scope cl C X.env) fp) g (own.map (·.2)) tg t q) (ht : ∀ (s : Shared) (H : Hp) (C : Addr) (cl : List (Str × Addr)) (fp : List Addr), QTs (X.blk s H scope (compEnvC scope cl C X.env) fp) g ifs tt qt)
    (he : ∀ (s : Shared) (H : Hp) (C : Addr) (cl : List (Str × Addr)) (fp : List Addr), QE (X.blk s H scope (compEnvC scope cl C X.env) fp) g W0 elt te qe) (hs : ∀ x, foldedSetIterable iter X.env x = pure x := by intro _; rfl) :
    QN X g W (.ListComp elt [⟨tg, iter, ifs, 0⟩] scope pos) (tLc ti t tt te (own.map (·.2))) (qLc qi q qt qe (own.map (·.2))) :=
  ⟨pe_lc hc hN hi.pi ok (fun s H C cl fp => (hg s H C cl fp).pg) (fun s H C cl fp => (ht s H C cl fp).pts) (fun s H C cl fp => (he s H C cl fp).pe) hs,
    fun N => sm_lc (hi.sm N) ((hg X.s_0 X.H_0 0 [] []).sm N) (fun _ h => h) ((ht X.s_0 X.H_0 0 [] []).sm N) ((he X.s_0 X.H_0 0 [] []).sm N)⟩
theorem qs_setLc {i : Nat} {y : Str} {py spos : Pos} (own : List (Str × Nat)) (hc : X.calm = true) (hN : X.N.Nodup) (hy : X.N[i]? = some y) (hyl : X.env.scope.names.lookup y = some .local)
    (hsw : swapsWith (.ListComp elt [⟨tg, iter, ifs, 0⟩] scope pos) (some (.Name y py)) spos.line X.env = pure true) (hi : QI X g W tg iter ti qi) (ok : BlkOk X.N X.env.scope scope own)
    (hg : ∀ (s : Shared) (H : Hp) (C : Addr) (cl : List (Str × Addr)) (fp : List Addr), QG (X.blk s H scope (compEnvC scope cl C X.env) fp) g (own.map (·.2)) tg t q) (ht : ∀ (s : Shared) (H : Hp) (C : Addr) (cl : List (Str × Addr)) (fp : List Addr), QTs (X.blk s H scope (compEnvC scope cl C X.env) fp) g ifs tt qt)
    (he : ∀ (s : Shared) (H : Hp) (C : Addr) (cl : List (Str × Addr)) (fp : List Addr), QE (X.blk s H scope (compEnvC scope cl C X.env) fp) g W0 elt te qe) (hs : ∀ x, foldedSetIterable iter X.env x = pure x := by intro _; rfl) :
    QS X g W (.Assign [.Name y py] (.ListComp elt [⟨tg, iter, ifs, 0⟩] scope pos) spos) (tAsg (tLc ti t tt te (own.map (·.2))) (gName i)) (qSetN i (qLc qi q qt qe (own.map (·.2)))) :=
  ⟨ps_setLc hc hN hy hyl hsw hi.pi ok (fun s H C cl fp => (hg s H C cl fp).pg) (fun s H C cl fp => (ht s H C cl fp).pts) (fun s H C cl fp => (he s H C cl fp).pe) hs,
    fun N => sm_setN (sm_lc (hi.sm N) ((hg X.s_0 X.H_0 0 [] []).sm N) (fun _ h => h) ((ht X.s_0 X.H_0 0 [] []).sm N) ((he X.s_0 X.H_0 0 [] []).sm N))⟩
end
def arSl : Ar → Sl
  | .bor d => .bor d
  | .sh d => .sh d
  | .bag n => .bag n
def startE (N : List Str) (as : List Ar) : En := as.map arSl ++ List.replicate (N.length - as.length) .no
theorem arsOk_get {K : Fg} {F S : Hp} {b : Option Addr} : ∀ {vs : List V} {as : List Ar}, ArsOk K F S b vs as → ∀ {i : Nat} {v : V} {a : Ar}, vs[i]? = some v → as[i]? = some a → ArOk K F S b v a
  | _, _, .nil, _, _, _, h, _ => by simp at h
  | _, _, .cons h r, 0, _, _, h1, h2 => by
    simp at h1 h2; subst h1; subst h2; exact h
  | _, _, .cons h r, i + 1, v, a, h1, h2 => arsOk_get r (i := i) (by simpa using h1) (by simpa using h2)
theorem bud_app : ∀ (a b : En), bud (a ++ b) = bud a + bud b
  | [], b => by simp [bud]
  | s :: a, b => by
    show bw s + bud (a ++ b) = bw s + bud a + bud b
    rw [bud_app a b]; omega
theorem bud_no : ∀ n, bud (List.replicate n Sl.no) = 0
  | 0 => rfl
  | n + 1 => by
    rw [List.replicate_succ]
    show bw .no + bud (List.replicate n Sl.no) = 0
    rw [bud_no n]; rfl
theorem bud_start (N : List Str) (as : List Ar) : bud (startE N as) = abud as := by
  unfold startE
  rw [bud_app, bud_no, Nat.add_zero]
  induction as with
  | nil => rfl
  | cons a as ih =>
    show bw (arSl a) + bud (as.map arSl) = aw a + abud as
    rw [ih]
    cases a <;> rfl
theorem rel_start {c : Cg} {F S H : Hp} {b : Option Addr} {N : List Str} {vs : List V} {as : List Ar} (hF : Same F H) (hS : Same S H) (hb : Bg c F S H b (abud as)) (h : ArsOk c.K F S b vs as) (hl : as.length ≤ N.length) : Rel c F F S b (L2.start N vs) H (startE N as) := by
  have e := h.length
  have own : ∀ (i : Nat) (d : D), (startE N as)[i]? ≠ some (.own d) := fun i d z => by
    unfold startE at z
    have := List.mem_of_getElem? z
    rcases List.mem_append.mp this with m | m
    · obtain ⟨a, _, q⟩ := List.mem_map.mp m
      cases a <;> cases q
    · cases (List.mem_replicate.mp m).2
  refine ⟨?_, Same.refl _, hF, hS, fun p e => by rw [bud_start]; exact hb p e, fun i s v h1 h2 => ?_, fun i j p d d' _ _ h2 _ _ => own i d h2⟩
  · unfold startE L2.start
    rw [List.length_append, List.length_append, List.length_map, List.length_map, List.length_replicate, List.length_replicate, e]
  · unfold startE at h1
    unfold L2.start at h2
    by_cases hi : i < as.length
    · rw [List.getElem?_append_left (by rw [List.length_map]; exact hi), List.getElem?_map] at h1
      rw [List.getElem?_append_left (by rw [List.length_map, e]; exact hi), List.getElem?_map] at h2
      cases e1 : as[i]? with
      | none => rw [e1] at h1; cases h1
      | some a =>
        cases e2 : vs[i]? with
        | none => rw [e2] at h2; cases h2
        | some u =>
          rw [e1] at h1; rw [e2] at h2
          cases h1; cases h2
          have := arsOk_get h e2 e1
          cases a <;> exact this
    · rw [List.getElem?_append_right (by rw [List.length_map]; omega)] at h1
      have := (List.mem_replicate.mp (List.mem_of_getElem? h1)).2
      subst this
      trivial
theorem fn_q {P : Program} {w : World} {K : Fg} {mg : Str → Option Value} {base : Heap} {x qual : Str} {params : Arguments} {body : List Stmt} {scope : Scope} {dvs : List V} {kws : List (Str × V)} {f : Addr} {fd : FuncData} {N ps : List Str} {k : Nat} {sp : Spq} (g : Gd)
    (Fn : FunD K x qual params body scope dvs kws f fd) (S : FnScope N ps scope) (hl : ps.length ≤ N.length) (len : ∀ as k x, sp as k x → as.length = ps.length)
    (hbody : ∀ (cdv : Value) (A : Around) (outer : List Env) (s : Shared) (H : Hp) (E : XK), A.guards = some [] → Room k (A.deeper (envOfC qual scope s.heap.objs.size f cdv)) →
      ∃ t q, QSs (cxOf (L2.CX P w) P w K mg base N qual scope f cdv A outer s H E) g (fun cls d _ H => E cls d H) body t q ∧
        ∀ as k x, sp as k x → q { nx := fun _ => k (.sh .non), rt := fun r _ => k r, ex := fun nm pay _ => x nm pay } (startE N as)) : FnG P w K mg base (k + 1) f fd ps (spQ K mg g sp) := by
  obtain ⟨oc, od, dV, kV, doc, pm, an, cdv, ct, osl, rfl, lk, hcd, _, _⟩ := Fn.ex
  refine fnG_of lk hcd S (fun vs H Q E h => ?_) fun A outer s H vs Q E hgd hr h => ?_
  · obtain ⟨_, F, S, b, as, k, x, _, _, _, h4, h5, _⟩ := h
    exact h4.length.trans (len as k x h5)
  · obtain ⟨t, q, ht, hq⟩ := hbody cdv A outer s H E hgd hr
    refine ⟨t, ht.pss, ?_⟩
    obtain ⟨M, F, S, b, as, k, x, hF, hS, hb, h4, h5, h6, h7⟩ := h
    have lo : ∀ {S' H' : Hp} {E : En}, (∀ p, b = some p → F p = none ∧ S' p = none ∧ BagAt ⟨K, mg, g, M⟩ S' H' p (bud E)) → Bg ⟨K, mg, g, M⟩ F S' H' b 0 := fun z p e => ⟨(z p e).1, (z p e).2.1, (z p e).2.2.mono (Same.refl _) rfl (Nat.zero_le _)⟩
    have R := rel_start (c := ⟨K, mg, g, M⟩) (N := N) hF hS hb h4 (by rw [len as k x h5]; exact hl)
    refine ht.sm M F F S b _ H _ _ _ R (hq as k x h5) ⟨fun S' σ' H' env' R' e' hk => ?_, fun S' σ' H' env' v r R' e' ro hk => ?_, fun _ _ _ _ _ _ z => z.elim, fun _ _ _ _ _ _ z => z.elim, fun nm pay env' S' σ' H' C d R' e' hx hm hp => ?_⟩
    · exact h6 .non S' H' (.sh .non) R'.ph R'.sh e' (lo R'.bg) Rep.non hk
    · exact h6 v S' H' r R'.ph R'.sh e' (lo R'.bg) ro hk
    · exact h7 nm pay C d S' H' R'.ph R'.sh e' (lo R'.bg) hx hm hp
end Q
set_option Elab.async false
set_option linter.all false
set_option maxRecDepth 100000
set_option maxHeartbeats 2000000
set_option autoImplicit false
namespace Q
open PySem PySem.Spec PyProof.Rows L2
structure Out (K : Fg) (S H : Hp) (k : Rv → Prop) (Q : VK) : Prop where
  old : ∀ w z, Rep K S w z → k (.sh z) → Q w H
  new : ∀ p o z, H p = none → OwnAt K S (upd H p o) p z → k (.own z) → Q (.ref p) (upd H p o)
  tup : ∀ p xs ds, H p = none → Reps K S xs ds → k (.sh (.tup ds)) → Q (.ref p) (upd H p (.tup xs))
theorem Rel.out {c : Cg} {F P S S0 H : Hp} {b : Option Addr} {σ : L2.St} {env : En} {k : Rv → En → Prop} {Q : VK} (R : Rel c F P S b σ H env) (e0 : Ext P S0 S)
    (hk : ∀ (S' H' : Hp) (env' : En) (v : V) (y : Rv), Rel c F P S' b σ H' env' → Ext P S0 S' → RvOk c.K P S' b H' v y → (∀ d, y = .own d → ∀ (i : Nat) (e : D) (p : Addr), v = .ref p → σ[i]? = some (some (.ref p)) → env'[i]? ≠ some (.own e)) → k y env' → Q v H') : Out c.K S H (fun r => k r env) Q := by
  refine ⟨fun w z h kz => hk S H env w (.sh z) R e0 h (fun d e => nomatch e) kz, fun p o z hp ho kz => ?_, fun p xs ds hp r kz => ?_⟩
  · have n := R.new hp
    refine hk S (upd H p o) env (.ref p) (.own z) (R.alloc hp) e0 ⟨p, rfl, n.1, n.2.1, n.2.2, ho⟩ (fun _ _ i e q hq => ?_) kz
    cases hq
    exact R.notOwn hp i e
  · have n := R.new hp
    exact hk _ _ env (.ref p) (.sh (.tup ds)) (R.allocSh hp) (e0.trans (Ext.alloc n.1 n.2.1)) (Rep.tup upd_same (r.mono (same_upd n.2.1))) (fun d e => nomatch e) kz
def Op2R (K : Fg) (r : R2) (f : D → D → (Rv → Prop) → Prop) : Prop := ∀ (S H : Hp) (v u : V) (d e : D) (k : Rv → Prop) (Q : VK), Same S H → At K S H v d → At K S H u e → f d e k → Out K S H k Q → r v u H Q
def qOpR (f : D → D → (Rv → Prop) → Prop) (qa qb : TEq) : TNq := fun env k x => qa env (fun y env1 => qb env1 (fun z env2 => ∃ d e, res env2 y = some d ∧ res env2 z = some e ∧ f d e fun r => k r env2) x) x
section
variable {c : Cg} {X : Cx} {g : Gd} {W : WX} {e a b : Expr} {es : List Expr} {t ta tb : TE} {tl : TA} {q qa qb : TEq} {ql : TAq} {pos p2 : Pos}
theorem sm_opR {r : R2} {f : D → D → (Rv → Prop) → Prop} (h : Op2R c.K r f) (ha : Sm c W ta qa) (hb : Sm c W tb qb) : SmN c W (tOp r ta tb) (qOpR f qa qb) := by
  intro F P S b σ H env k x Q R hq hx hk
  refine ha F P S b σ H env _ x _ R hq hx fun S1 H1 env1 v y R1 e1 r1 h1 => ?_
  refine hb F P S1 b σ H1 env1 _ x _ R1 h1 (hx.mono e1) fun S2 H2 env2 u z R2 e2 r2 h2 => ?_
  obtain ⟨d, e, hd, he, hf⟩ := h2
  exact h S2 H2 v u d e _ Q R2.sh (R2.read (r1.mono e2.1) hd) (R2.read r2 he) hf (R2.out (e1.trans e2) hk)
theorem qn_opR {op : Operator} {r : R2} {f : D → D → (Rv → Prop) → Prop} (ho : OpR X (binaryOp op) r) (h : Op2R X.K r f) (ha : QE X g W a ta qa) (hb : QE X g W b tb qb) : QN X g W (.BinOp a op b pos) (tOp r ta tb) (qOpR f qa qb) :=
  ⟨pe_op ho ha.pe hb.pe, fun N => sm_opR h (ha.sm N) (hb.sm N)⟩
def CbR (K : Fg) (r : List V → Hp → VK → Prop) (f : List D → (Rv → Prop) → Prop) : Prop := ∀ (S H : Hp) (vs : List V) (ds : List D) (k : Rv → Prop) (Q : VK), Same S H → Ats K S H vs ds → f ds k → Out K S H k Q → r vs H Q
def qCBR (f : List D → (Rv → Prop) → Prop) (ql : TAq) : TNq := fun env k x => ql env (fun ys env1 => ∃ ds, ress env1 ys = some ds ∧ f ds fun r => k r env1) x
theorem sm_cbR {r : List V → Hp → VK → Prop} {f : List D → (Rv → Prop) → Prop} (h : CbR c.K r f) (ha : SmA c W tl ql) : SmN c W (tCB r tl) (qCBR f ql) := by
  intro F P S b σ H env k x Q R hq hx hk
  refine ha F P S b σ H env _ x _ R hq hx fun S1 H1 env1 vs ys R1 e1 r1 h1 => ?_
  obtain ⟨ds, hd, hf⟩ := h1
  exact h S1 H1 vs ds _ Q R1.sh (R1.reads r1 hd) hf (R1.out e1 hk)
theorem qn_cb {x : Str} {idS : String} {p : Pos} {r : List V → Hp → VK → Prop} {f : List D → (Rv → Prop) → Prop} (hc : CallR X (.builtin idS) r) (h : CbR X.K r f) (hg : Gl X x) (hm : X.mg x = none) (hv : bootBuiltins x = some (.builtin idS)) (ha : QA X g W (e :: es) tl ql) (hn : x ≠ "__name__" := by decide) (hdb : (x == ("__debug__" : Str)) = false := by decide)
    (he : starEach (e :: es) X.env = (false, eval e X.env) :: starEach es X.env := by rfl) (hpl : (backTo pos (starEach es X.env)).any (·.1) = false := by rfl) : QN X g W (.Call (.Name x p) (e :: es) [] pos) (tCB r tl) (qCBR f ql) :=
  ⟨pe_callB hc hg hm hv ha.pa hn hdb he hpl, fun N => sm_cbR h (ha.sm N)⟩
theorem qn_ty {x : Str} {T : String} {p : Pos} {r : List V → Hp → VK → Prop} {f : List D → (Rv → Prop) → Prop} (hc : CallR X (.type T) r) (h : CbR X.K r f) (hg : Gl X x) (hm : X.mg x = none) (hv : bootBuiltins x = some (.type T)) (ha : QA X g W (e :: es) tl ql) (hn : x ≠ "__name__" := by decide) (hdb : (x == ("__debug__" : Str)) = false := by decide)
    (he : starEach (e :: es) X.env = (false, eval e X.env) :: starEach es X.env := by rfl) (hpl : (backTo pos (starEach es X.env)).any (·.1) = false := by rfl) : QN X g W (.Call (.Name x p) (e :: es) [] pos) (tCB r tl) (qCBR f ql) :=
  ⟨pe_callTy hc hg hm hv ha.pa hn hdb he hpl, fun N => sm_cbR h (ha.sm N)⟩
theorem CallR.or {u : Value} {r r' : List V → Hp → VK → Prop} (h : CallR X u r) (h' : CallR X u r') : CallR X u (fun x H Q => r x H Q ∨ r' x H Q) := by
  intro pins s σ H xs us Q I rv z
  rcases z with z | z
  · exact h pins s σ H xs us Q I rv z
  · exact h' pins s σ H xs us Q I rv z
abbrev TOq := En → (Option Int → En → Prop) → XQ → Prop
def SmO (c : Cg) (W : WX) (t : TO) (q : TOq) : Prop := ∀ (F P S : Hp) (b : Option Addr) (σ : L2.St) (H : Hp) (env : En) (k : Option Int → En → Prop) (x : XQ) (Q : Option Int → Hp → Prop), Rel c F P S b σ H env → q env k x → XOk c F P b W S x →
  (∀ (S' H' : Hp) (env' : En) (y : Option Int), Rel c F P S' b σ H' env' → Ext P S S' → k y env' → Q y H') → t σ H Q
structure QO (X : Cx) (g : Gd) (W : WX) (e : Option Expr) (t : TO) (q : TOq) : Prop where
  po : PO X e t
  sm : ∀ N, SmO (cg X g N) W t q
def qoNone : TOq := fun env k _ => k none env
def qoSome (q : TEq) : TOq := fun env k x => q env (fun y env1 => ∃ i, res env1 y = some (.int i) ∧ k (some i) env1) x
theorem qo_none : QO X g W none tNoPart qoNone := ⟨po_none, fun N F P S b σ H env k x Q R hq _ hk => hk S H env none R Ext.refl hq⟩
theorem qo_some (h : QE X g W e t q) : QO X g W (some e) (tPart t) (qoSome q) := ⟨po_some h.pe, fun N F P S b σ H env k x Q R hq hx hk => by
  refine h.sm N F P S b σ H env _ x _ R hq hx fun S1 H1 env1 v y R1 e1 r1 h1 => ?_
  obtain ⟨i, hi, h2⟩ := h1
  exact ⟨i, (R1.read r1 hi).scal (w := .int i) rfl, hk S1 H1 env1 (some i) R1 e1 h2⟩⟩
def SlOp (K : Fg) (r : V → Option Int → Option Int → Hp → VK → Prop) (f : D → Option Int → Option Int → (Rv → Prop) → Prop) : Prop := ∀ (S H : Hp) (v : V) (d : D) (lo hi : Option Int) (k : Rv → Prop) (Q : VK), Same S H → At K S H v d → f d lo hi k → Out K S H k Q → r v lo hi H Q
def qSl (f : D → Option Int → Option Int → (Rv → Prop) → Prop) (qa : TEq) (ql qh : TOq) : TNq := fun env k x => qa env (fun y env1 => ql env1 (fun lo env2 => qh env2 (fun hi env3 => ∃ d, res env3 y = some d ∧ f d lo hi fun r => k r env3) x) x) x
theorem sm_sl {r : V → Option Int → Option Int → Hp → VK → Prop} {f : D → Option Int → Option Int → (Rv → Prop) → Prop} {t1 t2 : TO} {q1 q2 : TOq} (h : SlOp c.K r f) (ha : Sm c W ta qa) (hl : SmO c W t1 q1) (hh : SmO c W t2 q2) : SmN c W (tSl r ta t1 t2) (qSl f qa q1 q2) := by
  intro F P S b σ H env k x Q R hq hx hk
  refine ha F P S b σ H env _ x _ R hq hx fun S1 H1 env1 v y R1 e1 r1 h1 => ?_
  refine hl F P S1 b σ H1 env1 _ x _ R1 h1 (hx.mono e1) fun S2 H2 env2 lo R2 e2 h2 => ?_
  refine hh F P S2 b σ H2 env2 _ x _ R2 h2 (hx.mono (e1.trans e2)) fun S3 H3 env3 hi R3 e3 h3 => ?_
  obtain ⟨d, hd, hf⟩ := h3
  exact h S3 H3 v d lo hi _ Q R3.sh (R3.read (r1.mono (e2.trans e3).1) hd) hf (R3.out (e1.trans (e2.trans e3)) hk)
theorem qn_sl {lo hi : Option Expr} {r : V → Option Int → Option Int → Hp → VK → Prop} {f : D → Option Int → Option Int → (Rv → Prop) → Prop} {t1 t2 : TO} {q1 q2 : TOq} (hr : SlR X r) (h : SlOp X.K r f) (ha : QE X g W a ta qa) (hl : QO X g W lo t1 q1) (hh : QO X g W hi t2 q2) :
    QN X g W (.Subscript a (.Slice lo hi none p2) pos) (tSl r ta t1 t2) (qSl f qa q1 q2) := ⟨pe_slice hr ha.pe hl.po hh.po, fun N => sm_sl h (ha.sm N) (hl.sm N) (hh.sm N)⟩
end
section
variable {K : Fg} {X : Cx}
def fI2 (C : Int → Int → Prop) (h : Int → Int → D) : D → D → (D → Prop) → Prop
  | .int i, .int j, k => C i j ∧ k (h i j)
  | _, _, _ => False
theorem o_I {C : Int → Int → Prop} {gv : Int → Int → V} {h : Int → Int → D} (hs : ∀ i j, scalar (h i j) = some (gv i j)) : Op2 K (rI C gv) (fI2 C h) := by
  intro S H v u d e k Q _ a b hf hk
  cases a <;> cases b <;> first | exact hf.elim | skip
  exact ⟨_, _, rfl, rfl, hf.1, hk _ _ (Rep.scal (hs _ _)) hf.2⟩
theorem o_I0 {gv : Int → Int → V} {h : Int → Int → D} (hs : ∀ i j, scalar (h i j) = some (gv i j)) : Op2 K (rI0 gv) (fI2 (fun _ _ => True) h) := by
  intro S H v u d e k Q _ a b hf hk
  cases a <;> cases b <;> first | exact hf.elim | skip
  exact ⟨_, _, rfl, rfl, hk _ _ (Rep.scal (hs _ _)) hf.2⟩
def fSub := fI2 (fun _ _ => True) fun i j => .int (i - j)
def fMod := fI2 (fun _ j => 0 < j) fun i j => .int (i % j)
def fDiv := fI2 CDiv fun i j => .int (i / j)
def fDivW := fI2 CDivW fun i j => .int (i / j)
def fPow := fI2 CPow fun i j => .int (i ^ j.toNat)
def fLt := fI2 (fun _ _ => True) fun i j => .bl (decide (i < j))
def fLe := fI2 (fun _ _ => True) fun i j => .bl (decide (i ≤ j))
def fGt := fI2 (fun _ _ => True) fun i j => .bl (decide (j < i))
def fGe := fI2 (fun _ _ => True) fun i j => .bl (decide (j ≤ i))
theorem o_sub : Op2 K (rI0 fun i j => .int (i - j)) fSub := o_I0 fun _ _ => rfl
theorem o_mod : Op2 K (rI (fun _ j => 0 < j) fun i j => .int (i % j)) fMod := o_I fun _ _ => rfl
theorem o_div : Op2 K (rI CDiv fun i j => .int (i / j)) fDiv := o_I fun _ _ => rfl
theorem o_divW : Op2 K (rI CDivW fun i j => .int (i / j)) fDivW := o_I fun _ _ => rfl
theorem o_pow : Op2 K (rI CPow fun i j => .int (i ^ j.toNat)) fPow := o_I fun _ _ => rfl
theorem o_lt : Op2 K (rI0 fun i j => .bl (decide (i < j))) fLt := o_I0 fun _ _ => rfl
theorem o_le : Op2 K (rI0 fun i j => .bl (decide (i ≤ j))) fLe := o_I0 fun _ _ => rfl
theorem o_gt : Op2 K (rI0 fun i j => .bl (decide (j < i))) fGt := o_I0 fun _ _ => rfl
theorem o_ge : Op2 K (rI0 fun i j => .bl (decide (j ≤ i))) fGe := o_I0 fun _ _ => rfl
def fAdd : D → D → (Rv → Prop) → Prop
  | .int i, .int j, k => k (.sh (.int (i + j)))
  | .str x, .str y, k => x.length + y.length ≤ 10000000 ∧ k (.sh (.str (x ++ y)))
  | .lst a, .lst b, k => a.length + b.length < 10000000 ∧ k (.own (.lst (a ++ b)))
  | _, _, _ => False
def rAddQ : R2 := fun x y H Q => (rI0 fun i j => .int (i + j)) x y H Q ∨ ((∃ i j, x = .str i ∧ y = .str j ∧ i.length + j.length ≤ sizeLine ∧ Q (.str (i ++ j)) H) ∨ rCat x y H Q)
theorem or_addQ : OpR X (binaryOp .Add) rAddQ := OpR.or op_add (OpR.or op_add_str op_cat)
theorem o_add : Op2R K rAddQ fAdd := by
  intro S H v u d e k Q _ a b hf o
  cases a with
  | int i =>
    cases b <;> first | exact hf.elim | skip
    exact .inl ⟨_, _, rfl, rfl, o.old _ _ (.int _) hf⟩
  | str x =>
    cases b <;> first | exact hf.elim | skip
    exact .inr (.inl ⟨_, _, rfl, rfl, size_of hf.1, o.old _ _ (.str _) hf.2⟩)
  | lst h r =>
    cases b <;> first | exact hf.elim | skip
    rename_i h2 r2
    refine .inr (.inr ⟨_, _, _, _, rfl, rfl, h, h2, by rw [r.length, r2.length]; exact size_of (Nat.le_of_lt hf.1), fun p hp => o.new p _ _ hp (.lst upd_same (r.append r2)) hf.2⟩)
  | _ => cases b <;> exact hf.elim
def fMul : D → D → (Rv → Prop) → Prop
  | .int i, .int j, k => (CMul i j ∨ CMulW i j) ∧ k (.sh (.int (i * j)))
  | .lst a, .int j, k => -1000000000 ≤ j ∧ j ≤ 1000000000 ∧ a.length * j.toNat ≤ 10000000 ∧ k (.own (.lst (List.replicate j.toNat a).flatten))
  | _, _, _ => False
def rMulQ : R2 := fun x y H Q => (rI CMul fun i j => .int (i * j)) x y H Q ∨ ((rI CMulW fun i j => .int (i * j)) x y H Q ∨ rRep x y H Q)
theorem or_mulQ : OpR X (binaryOp .Mult) rMulQ := OpR.or op_mul (OpR.or op_mulW op_rep)
theorem Reps.flat {S : Hp} : ∀ (n : Nat) {vs : List V} {ds : List D}, Reps K S vs ds → Reps K S (List.replicate n vs).flatten (List.replicate n ds).flatten
  | 0, _, _, _ => by simp; exact .nil
  | n + 1, _, _, r => by
    rw [List.replicate_succ, List.replicate_succ, List.flatten_cons, List.flatten_cons]
    exact r.append (Reps.flat n r)
theorem o_mul : Op2R K rMulQ fMul := by
  intro S H v u d e k Q _ a b hf o
  cases a with
  | int i =>
    cases b <;> first | exact hf.elim | skip
    rcases hf.1 with h | h
    · exact .inl ⟨_, _, rfl, rfl, h, o.old _ _ (.int _) hf.2⟩
    · exact .inr (.inl ⟨_, _, rfl, rfl, h, o.old _ _ (.int _) hf.2⟩)
  | lst h r =>
    cases b <;> first | exact hf.elim | skip
    obtain ⟨h1, h2, h3, h4⟩ := hf
    refine .inr (.inr ⟨_, _, _, rfl, rfl, h, by omega, by omega, by rw [r.length]; exact size_of h3, fun p hp => o.new p _ _ hp (.lst upd_same (Reps.flat _ r)) h4⟩)
  | _ => cases b <;> exact hf.elim
def fIx : D → D → (D → Prop) → Prop
  | .lst a, .int i, k => ∃ d, atI a i = some d ∧ k d
  | .tup a, .int i, k => ∃ d, atI a i = some d ∧ k d
  | .scr a, .int i, k => ∃ n, atI a i = some n ∧ k (.int n)
  | .str z, .int i, k => ∃ c, z.length ≤ 10000000 ∧ atI z.cps.toList i = some c ∧ k (.str ⟨#[c]⟩)
  | _, _, _ => False
def rIxQ (K : Fg) : R2 := fun x y H Q => rIxL K x y H Q ∨ (rIxT K x y H Q ∨ rIxS x y H Q)
theorem ix_Q : IxR X (rIxQ X.K) := IxR.or ix_list (IxR.or ix_tup ix_str)
theorem atI_reps {S : Hp} {vs : List V} {ds : List D} {i : Int} {d : D} (r : Reps K S vs ds) (h : atI ds i = some d) : ∃ v, atI vs i = some v ∧ Rep K S v d := by
  unfold atI at h ⊢
  rw [r.length]
  cases e : ixN ds.length i with
  | none => rw [e] at h; cases h
  | some j =>
    rw [e] at h
    exact r.get h
theorem atI_map {α β : Type} (f : α → β) {xs : List α} {i : Int} {x : α} (h : atI xs i = some x) : atI (xs.map f) i = some (f x) := by
  unfold atI at h ⊢
  rw [List.length_map]
  cases e : ixN xs.length i with
  | none => rw [e] at h; cases h
  | some j =>
    rw [e] at h
    have h : xs[j]? = some x := h
    show (xs.map f)[j]? = some (f x)
    rw [List.getElem?_map, h]; rfl
theorem o_ix : Op2 K (rIxQ K) fIx := by
  intro S H v u d e k Q _ a b hf hk
  cases a with
  | lst h r =>
    cases b <;> first | exact hf.elim | skip
    obtain ⟨d, h1, h2⟩ := hf
    obtain ⟨w, h3, h4⟩ := atI_reps r h1
    exact .inl ⟨_, _, _, w, rfl, rfl, SqL.of h, h3, hk w d h4 h2⟩
  | scr h =>
    cases b <;> first | exact hf.elim | skip
    obtain ⟨n, h1, h2⟩ := hf
    exact .inl ⟨_, _, _, _, rfl, rfl, h, atI_map V.int h1, hk _ _ (.int n) h2⟩
  | tup h r =>
    cases b <;> first | exact hf.elim | skip
    obtain ⟨d, h1, h2⟩ := hf
    obtain ⟨w, h3, h4⟩ := atI_reps r h1
    exact .inr (.inl ⟨_, _, _, w, rfl, rfl, SqT.of h, h3, hk w d h4 h2⟩)
  | str z =>
    cases b <;> first | exact hf.elim | skip
    obtain ⟨c, h1, h2, h3⟩ := hf
    exact .inr (.inr ⟨_, _, _, rfl, rfl, size_of h1, h2, hk _ _ (.str _) h3⟩)
  | _ => cases b <;> exact hf.elim
mutual
def toP : D → PyData
  | .non => .none
  | .bl b => .bool b
  | .int i => .int i
  | .str x => .str x
  | .lst xs => .list (toPs xs)
  | .tup xs => .tuple (toPs xs)
  | .dct kvs => .dict (toPk kvs)
  | .scr ns => .list (ns.map .int)
  | .exc _ => .dict [(.dict [], .none)]
  | .dcT _ => .dict [(.dict [], .none)]
  | .obj _ _ _ => .dict [(.dict [], .none)]
def toPs : List D → List PyData
  | [] => []
  | x :: xs => toP x :: toPs xs
def toPk : List (Key × D) → List (PyData × PyData)
  | [] => []
  | (k, x) :: xs => ((match k with | .inl i => .int i | .inr s => .str s), toP x) :: toPk xs
end
theorem dp_ints {H : Hp} : ∀ (ns : List Int), DpAll K H (ns.map V.int) (ns.map PyData.int)
  | [] => .nil
  | n :: ns => .cons (.int n) (dp_ints ns)
mutual
theorem dp_rep {S H : Hp} (e : Same S H) : ∀ {v : V} {d : D}, Rep K S v d → (toP d).canLay0 = true → Dp K H v (toP d)
  | _, _, .non, _ => by unfold toP; exact .non
  | _, _, .bl b, _ => by unfold toP; exact .bl b
  | _, _, .int i, _ => by unfold toP; exact .int i
  | _, _, .str x, _ => by unfold toP; exact .str x
  | _, _, .lst h r, hc => by
    unfold toP at hc ⊢
    exact .lst (SqL.of (e _ _ h)) (dp_reps e r (by simpa [PyData.canLay0] using hc))
  | _, _, .scr h, _ => by unfold toP; exact .lst (e.seq h) (dp_ints _)
  | _, _, .tup h r, hc => by
    unfold toP at hc ⊢
    exact .tup (SqT.of (e _ _ h)) (dp_reps e r (by simpa [PyData.canLay0] using hc))
  | _, _, .dct h r, hc => by unfold toP at hc; simp [PyData.canLay0] at hc
  | _, _, .exc h _, hc => by unfold toP at hc; simp [PyData.canLay0] at hc
  | _, _, .dcT h _ _, hc => by unfold toP at hc; simp [PyData.canLay0] at hc
  | _, _, .obj h _ _ _, hc => by unfold toP at hc; simp [PyData.canLay0] at hc
theorem dp_reps {S H : Hp} (e : Same S H) : ∀ {vs : List V} {ds : List D}, Reps K S vs ds → PyData.canLayAll0 (toPs ds) = true → DpAll K H vs (toPs ds)
  | _, _, .nil, _ => by unfold toPs; exact .nil
  | _, _, .cons h r, hc => by
    unfold toPs at hc ⊢
    simp only [PyData.canLayAll0, Bool.and_eq_true] at hc
    exact .cons (dp_rep e h hc.1) (dp_reps e r hc.2)
end
theorem dp_at {S H : Hp} (e : Same S H) {v : V} {d : D} (h : At K S H v d) (hc : (toP d).canLay0 = true) : Dp K H v (toP d) := by
  cases h with
  | non => unfold toP; exact .non
  | bl b => unfold toP; exact .bl b
  | int i => unfold toP; exact .int i
  | str x => unfold toP; exact .str x
  | lst h r =>
    unfold toP at hc ⊢
    exact .lst (SqL.of h) (dp_reps e r (by simpa [PyData.canLay0] using hc))
  | scr h => unfold toP; exact .lst h (dp_ints _)
  | tup h r =>
    unfold toP at hc ⊢
    exact .tup (SqT.of h) (dp_reps e r (by simpa [PyData.canLay0] using hc))
  | dct h r => unfold toP at hc; simp [PyData.canLay0] at hc
  | exc h _ => unfold toP at hc; simp [PyData.canLay0] at hc
  | dcT h _ _ => unfold toP at hc; simp [PyData.canLay0] at hc
  | obj h _ _ _ => unfold toP at hc; simp [PyData.canLay0] at hc
theorem shaped_lay {d : PyData} (h : SeqAt.shaped d = true) : d.canLay0 = true := by
  unfold SeqAt.shaped at h
  rw [Bool.and_eq_true] at h
  exact h.1
def sEq : D → D → Option Bool
  | .int i, .int j => some (decide (i = j))
  | .str x, .str y => some (decide (x = y))
  | .bl x, .bl y => some (decide (x = y))
  | _, _ => none
def fEqB (neg : Bool) (d e : D) (k : D → Prop) : Prop := match sEq d e with
  | some c => k (.bl (if neg then !c else c))
  | none => SeqAt.shaped (toP d) = true ∧ SeqAt.shaped (toP e) = true ∧ k (.bl (if neg then !PyData.eqv (toP d) (toP e) else PyData.eqv (toP d) (toP e)))
def fEq := fEqB false
def fNe := fEqB true
def rEqQ (K : Fg) : R2 := fun x y H Q => rEq x y H Q ∨ rEqD K x y H Q
def rNeQ (K : Fg) : R2 := fun x y H Q => rNe x y H Q ∨ rNeD K x y H Q
theorem or_eqQ (hu : X.A.units + 64 < cLine) : OpR X (compareOp .Eq) (rEqQ X.K) := OpR.or op_eq (op_eqD hu)
theorem or_neQ (hu : X.A.units + 64 < cLine) : OpR X (compareOp .NotEq) (rNeQ X.K) := OpR.or op_ne (op_neD hu)
theorem sEq_scal {S H : Hp} {v u : V} {d e : D} {c : Bool} (a : At K S H v d) (b : At K S H u e) (h : sEq d e = some c) : scal v u = true ∧ decide (v = u) = c := by
  cases a <;> cases b <;> simp [sEq] at h <;> subst h <;> simp [scal]
theorem o_eq : Op2 K (rEqQ K) fEq := by
  intro S H v u d e k Q s a b hf hk
  unfold fEq fEqB at hf
  cases h : sEq d e with
  | some c =>
    rw [h] at hf
    obtain ⟨h1, h2⟩ := sEq_scal a b h
    exact .inl ⟨h1, by rw [h2]; exact hk _ _ (.bl c) hf⟩
  | none =>
    rw [h] at hf
    obtain ⟨h1, h2, h3⟩ := hf
    exact .inr ⟨_, _, dp_at s a (shaped_lay h1), dp_at s b (shaped_lay h2), h1, h2, hk _ _ (.bl _) h3⟩
theorem o_ne : Op2 K (rNeQ K) fNe := by
  intro S H v u d e k Q s a b hf hk
  unfold fNe fEqB at hf
  cases h : sEq d e with
  | some c =>
    rw [h] at hf
    obtain ⟨h1, h2⟩ := sEq_scal a b h
    exact .inl ⟨h1, by rw [h2]; exact hk _ _ (.bl _) hf⟩
  | none =>
    rw [h] at hf
    obtain ⟨h1, h2, h3⟩ := hf
    exact .inr ⟨_, _, dp_at s a (shaped_lay h1), dp_at s b (shaped_lay h2), h1, h2, hk _ _ (.bl _) h3⟩
def isNon : D → Bool
  | .non => true
  | _ => false
def fIs : D → D → (D → Prop) → Prop := fun d e k => isNon e = true ∧ k (.bl (isNon d))
def fIsNot : D → D → (D → Prop) → Prop := fun d e k => isNon e = true ∧ k (.bl (!isNon d))
theorem isNon_dec {S H : Hp} {v : V} {d : D} (a : At K S H v d) : decide (v = .non) = isNon d := by cases a <;> simp [isNon]
theorem isNon_eq {S H : Hp} {v : V} {d : D} (a : At K S H v d) (h : isNon d = true) : v = .non := by cases a <;> simp [isNon] at h <;> rfl
theorem o_is : Op2 K (fun x y H Q => y = .non ∧ Q (.bl (decide (x = .non))) H) fIs := by
  intro S H v u d e k Q s a b hf hk
  exact ⟨isNon_eq b hf.1, by rw [isNon_dec a]; exact hk _ _ (.bl _) hf.2⟩
theorem o_isNot : Op2 K (fun x y H Q => y = .non ∧ Q (.bl (!decide (x = .non))) H) fIsNot := by
  intro S H v u d e k Q s a b hf hk
  exact ⟨isNon_eq b hf.1, by rw [isNon_dec a]; exact hk _ _ (.bl _) hf.2⟩
def lenD : D → Option Nat
  | .lst a => some a.length
  | .tup a => some a.length
  | .scr a => some a.length
  | .str x => if x.length ≤ 10000000 then some x.length else none
  | _ => none
def fLen : List D → (D → Prop) → Prop
  | [d], k => ∃ n, lenD d = some n ∧ k (.int (n : Nat))
  | _, _ => False
theorem c_len : Cl K (fun xs H Q => ∃ x n, xs = [x] ∧ LenV K x H n ∧ Q (.int n) H) fLen := by
  intro S H vs ds k Q s a hf hk
  cases a with
  | nil => exact hf.elim
  | cons a r =>
    cases r with
    | cons _ _ => exact hf.elim
    | nil =>
      obtain ⟨n, h, hk2⟩ := hf
      refine ⟨_, n, rfl, ?_, hk _ _ (.int _) hk2⟩
      cases a with
      | lst h1 r => cases h; exact .inl ⟨_, SqL.of h1, r.length.symm⟩
      | scr h1 => cases h; exact .inl ⟨_, h1, by rw [List.length_map]⟩
      | tup h1 r => cases h; exact .inr ⟨_, SqT.of h1, r.length.symm⟩
      | str x =>
        have h : (if x.length ≤ 10000000 then some x.length else none) = some n := h
        by_cases hl : x.length ≤ 10000000
        · rw [if_pos hl] at h
          cases h; exact ⟨size_of hl, rfl⟩
        · rw [if_neg hl] at h
          cases h
      | _ => cases h
def fMin : List D → (D → Prop) → Prop
  | [.int i, .int j], k => k (.int (if j < i then j else i))
  | _, _ => False
def fMax : List D → (D → Prop) → Prop
  | [.int i, .int j], k => k (.int (if j > i then j else i))
  | _, _ => False
theorem ats1 {S H : Hp} {vs : List V} {d : D} (h : Ats K S H vs [d]) : ∃ v, vs = [v] ∧ At K S H v d := by
  cases h with
  | cons h r => cases r; exact ⟨_, rfl, h⟩
theorem ats2 {S H : Hp} {vs : List V} {d e : D} (h : Ats K S H vs [d, e]) : ∃ v u, vs = [v, u] ∧ At K S H v d ∧ At K S H u e := by
  cases h with
  | cons h r =>
    obtain ⟨u, rfl, h2⟩ := ats1 r
    exact ⟨_, u, rfl, h, h2⟩
theorem c_min : Cl K (fun xs H Q => ∃ i j, xs = [.int i, .int j] ∧ Q (.int (if j < i then j else i)) H) fMin := by
  intro S H vs ds k Q s a hf hk
  unfold fMin at hf
  split at hf
  · obtain ⟨v, u, rfl, a1, a2⟩ := ats2 a
    cases a1; cases a2
    exact ⟨_, _, rfl, hk _ _ (.int _) hf⟩
  · exact hf.elim
theorem c_max : Cl K (fun xs H Q => ∃ i j, xs = [.int i, .int j] ∧ Q (.int (if j > i then j else i)) H) fMax := by
  intro S H vs ds k Q s a hf hk
  unfold fMax at hf
  split at hf
  · obtain ⟨v, u, rfl, a1, a2⟩ := ats2 a
    cases a1; cases a2
    exact ⟨_, _, rfl, hk _ _ (.int _) hf⟩
  · exact hf.elim
def fAbs : List D → (D → Prop) → Prop
  | [.int i], k => k (.int (if i < 0 then -i else i))
  | _, _ => False
theorem c_abs : Cl K (fun xs H Q => ∃ i, xs = [.int i] ∧ Q (.int (if i < 0 then -i else i)) H) fAbs := by
  intro S H vs ds k Q s a hf hk
  unfold fAbs at hf
  split at hf
  · obtain ⟨v, rfl, a1⟩ := ats1 a
    cases a1
    exact ⟨_, rfl, hk _ _ (.int _) hf⟩
  · exact hf.elim
def fInt : List D → (D → Prop) → Prop
  | [.int i], k => k (.int i)
  | [.bl b], k => k (.int (if b then 1 else 0))
  | _, _ => False
theorem c_int : Cl K (fun xs H Q => (∃ i, xs = [.int i] ∧ Q (.int i) H) ∨ ∃ k, xs = [.bl k] ∧ Q (.int (if k then 1 else 0)) H) fInt := by
  intro S H vs ds k Q s a hf hk
  unfold fInt at hf
  split at hf
  · obtain ⟨v, rfl, a1⟩ := ats1 a
    cases a1
    exact .inl ⟨_, rfl, hk _ _ (.int _) hf⟩
  · obtain ⟨v, rfl, a1⟩ := ats1 a
    cases a1
    exact .inr ⟨_, rfl, hk _ _ (.int _) hf⟩
  · exact hf.elim
def fAll : List D → (D → Prop) → Prop
  | [.lst ds], k => ∃ bs : List Bool, ds = bs.map .bl ∧ k (.bl (bs.all id))
  | _, _ => False
def fAny : List D → (D → Prop) → Prop
  | [.lst ds], k => ∃ bs : List Bool, ds = bs.map .bl ∧ k (.bl (bs.any id))
  | _, _ => False
theorem c_all : Cl K (rAll K) fAll := by
  intro S H vs ds k Q s a hf hk
  unfold fAll at hf
  split at hf
  · obtain ⟨bs, rfl, hk2⟩ := hf
    obtain ⟨v, rfl, a1⟩ := ats1 a
    cases a1 with
    | lst h r => exact ⟨_, bs, rfl, by rw [← r.bls]; exact SqL.of h, hk _ _ (.bl _) hk2⟩
  · exact hf.elim
theorem c_any : Cl K (rAny K) fAny := by
  intro S H vs ds k Q s a hf hk
  unfold fAny at hf
  split at hf
  · obtain ⟨bs, rfl, hk2⟩ := hf
    obtain ⟨v, rfl, a1⟩ := ats1 a
    cases a1 with
    | lst h r => exact ⟨_, bs, rfl, by rw [← r.bls]; exact SqL.of h, hk _ _ (.bl _) hk2⟩
  · exact hf.elim
def fList : List D → (Rv → Prop) → Prop
  | [.lst ds], k => k (.own (.lst ds))
  | [.tup ds], k => k (.own (.lst ds))
  | [.scr ns], k => k (.own (.lst (ns.map .int)))
  | _, _ => False
theorem c_list : CbR K (fun xs H Q => ∃ p ys, xs = [.ref p] ∧ (SqL K H p ys ∨ SqT K H p ys) ∧ ∀ l, H l = none → Q (.ref l) (upd H l (.lst ys))) fList := by
  intro S H vs ds k Q s a hf o
  unfold fList at hf
  split at hf
  · obtain ⟨v, rfl, a1⟩ := ats1 a
    cases a1 with
    | lst h r => exact ⟨_, _, rfl, .inl (SqL.of h), fun l hl => o.new l _ _ hl (.lst upd_same r) hf⟩
  · obtain ⟨v, rfl, a1⟩ := ats1 a
    cases a1 with
    | tup h r => exact ⟨_, _, rfl, .inr (SqT.of h), fun l hl => o.new l _ _ hl (.lst upd_same r) hf⟩
  · obtain ⟨v, rfl, a1⟩ := ats1 a
    cases a1 with
    | scr h => exact ⟨_, _, rfl, .inl h, fun l hl => o.new l _ _ hl (.lst upd_same (Reps.of_ints _)) hf⟩
  · exact hf.elim
def fTuple : List D → (Rv → Prop) → Prop
  | [.lst ds], k => k (.sh (.tup ds))
  | _, _ => False
theorem c_tuple : CbR K (fun xs H Q => ∃ p ys, xs = [.ref p] ∧ ((SqL K H p ys ∧ ∀ l, H l = none → Q (.ref l) (upd H l (.tup ys))) ∨ (SqT K H p ys ∧ Q (.ref p) H))) fTuple := by
  intro S H vs ds k Q s a hf o
  unfold fTuple at hf
  split at hf
  · obtain ⟨v, rfl, a1⟩ := ats1 a
    cases a1 with
    | lst h r => exact ⟨_, _, rfl, .inl ⟨SqL.of h, fun l hl => o.tup l _ _ hl r hf⟩⟩
  · exact hf.elim
def cut {α : Type} (xs : List α) (lo hi : Option Int) : List α := (xs.drop (HT.sIx xs.length 0 lo)).take (HT.sIx xs.length xs.length hi - HT.sIx xs.length 0 lo)
def fSl : D → Option Int → Option Int → (Rv → Prop) → Prop
  | .lst ds, lo, hi, k => k (.own (.lst (cut ds lo hi)))
  | .scr ns, lo, hi, k => k (.own (.lst ((cut ns lo hi).map .int)))
  | .str z, lo, hi, k => z.length ≤ 10000000 ∧ k (.sh (.str (cutS z lo hi)))
  | .tup ds, lo, hi, k => ¬ (HT.sIx ds.length 0 lo = 0 ∧ HT.sIx ds.length ds.length hi = ds.length) ∧ k (.sh (.tup (cut ds lo hi)))
  | _, _, _, _ => False
def rSlQ (K : Fg) : V → Option Int → Option Int → Hp → VK → Prop := fun x lo hi H Q => rSlL K x lo hi H Q ∨ (rSlS x lo hi H Q ∨ rSlT K x lo hi H Q)
theorem sl_Q : SlR X (rSlQ X.K) := SlR.or sl_list (SlR.or sl_str sl_tup)
theorem reps_cut {S : Hp} {vs : List V} {ds : List D} (lo hi : Option Int) (r : Reps K S vs ds) : Reps K S (cutV vs lo hi) (cut ds lo hi) := by
  unfold cutV cut
  rw [r.length]
  exact (r.drop _).take _
theorem o_sl : SlOp K (rSlQ K) fSl := by
  intro S H v d lo hi k Q s a hf o
  cases a with
  | lst h r => exact .inl ⟨_, _, rfl, SqL.of h, fun p hp => o.new p _ _ hp (.lst upd_same (reps_cut lo hi r)) hf⟩
  | scr h =>
    refine .inl ⟨_, _, rfl, h, fun p hp => o.new p _ _ hp (.lst upd_same ?_) hf⟩
    have e : ∀ ns : List Int, (cut ns lo hi).map D.int = cut (ns.map D.int) lo hi := fun ns => by
      unfold cut
      rw [List.length_map, List.map_take, List.map_drop]
    rw [e]
    exact reps_cut lo hi (Reps.of_ints _)
  | str z => exact .inr (.inl ⟨_, rfl, size_of hf.1, o.old _ _ (.str _) hf.2⟩)
  | tup h r => exact .inr (.inr ⟨_, _, rfl, SqT.of h, by rw [r.length]; exact hf.1, fun p hp => o.tup p _ _ hp (reps_cut lo hi r) hf.2⟩)
  | _ => exact hf.elim
end
end Q
set_option Elab.async false
set_option linter.all false
set_option maxRecDepth 100000
set_option maxHeartbeats 2000000
set_option autoImplicit false
namespace Q
open PySem PySem.Spec PyProof.Rows L2
open AutoSeq1 (wpAny_loadPart')
theorem meets_enumT (l : Addr) (items : Array Value) (n : Nat) (dct : Option Addr) (sl : Array (Option Value)) :
    Meets (Builtin.«enumerate.__new__» ⟨[.type "enumerate", .ref l], []⟩) (fun _ R s => s.heap.get? l = some { cls := .type "tuple", dict := dct, data := .seq items n, slots := sl } ∧
      R (.ok (.ret (.ref (s.heap.push { cls := .type "tuple_iterator", data := .fields #[.ref l, .int 0 0] }).objs.size)))
        { s with heap := (s.heap.push { cls := .type "tuple_iterator", data := .fields #[.ref l, .int 0 0] }).push { cls := .type "enumerate", data := .fields #[.none, .bool false, .ref s.heap.objs.size, rawInt 0, .none, .none] } }) :=
  .of_wp fun prog w A R s h => by
    obtain ⟨hp, g, d, tk, os⟩ := s
    obtain ⟨hl, h⟩ := h
    have hsub := sub_enumerate
    have hL : Heap.IsTuple (Shared.heap ⟨hp, g, d, tk, os⟩) l items := ⟨_, hl, rfl, n, rfl⟩
    wp_walk using wpAny_loadPart' hl
    refine wpAny_stack_any fun st => wpAny_pure ?_
    split
    · rename_i c _ _ _ _ _
      by_cases hc : (c == Value.type "enumerate") = true
      · simp only [hc]
        wp_walk using wpAny_loadPart' hl, wpAny_pyIter_tuple hL
        exact ⟨_, rfl, h⟩
      · simp only [hc]
        wp_walk using wpAny_loadPart' hl, wpAny_pyIter_tuple hL
        exact ⟨_, rfl, h⟩
    · wp_walk using wpAny_loadPart' hl, wpAny_pyIter_tuple hL
      exact ⟨_, rfl, h⟩
theorem call_enumT {prog : Program} {w : World} {A : Around} {E : Value → Shared → Prop} {s : Shared} {l : Addr} {items : Array Value} {Q : Value → Shared → Prop} (hL : s.heap.IsTuple l items)
    (h : ∀ h', IsEnum h' (s.heap.objs.size + 1) s.heap.objs.size 0 .none → h'.IsTupleIter s.heap.objs.size l 0 → (∀ b o, s.heap.get? b = some o → h'.get? b = some o) → Q (.ref (s.heap.objs.size + 1)) { s with heap := h' }) :
    wpAny (model prog w) A (call (.type "enumerate") [.ref l]) Q E s := by
  obtain ⟨⟨c, dct, dt, sl⟩, hl, hc, n, hd⟩ := hL
  obtain rfl : c = .type "tuple" := hc
  obtain rfl : dt = .seq items n := hd
  refine callType_new F.called_enumerate (by decide) (F.typeCall_enumerate_1 _) (F.newCall_enumerate_1 _) (fun obj => F.args_object_init_2 obj _) F.entry_enumerate_new (meets_enumT l items n dct sl) ⟨hl, ?_⟩
  have hz : (s.heap.push { cls := .type "tuple_iterator", data := .fields #[.ref l, .int 0 0] }).objs.size = s.heap.objs.size + 1 := Heap.size_push ..
  have he : IsEnum ((s.heap.push { cls := .type "tuple_iterator", data := .fields #[.ref l, .int 0 0] }).push { cls := .type "enumerate", data := .fields #[.none, .bool false, .ref s.heap.objs.size, rawInt 0, .none, .none] }) (s.heap.objs.size + 1) s.heap.objs.size 0 .none := by
    rw [← hz]
    exact Heap.get?_push_size _ rfl
  show _ ∧ _
  rw [hz]
  exact ⟨⟨_, he, rfl⟩, h _ he ⟨_, Heap.get?_push_of_some _ (Heap.get?_push_size _ rfl), rfl, rfl⟩ fun b o x => Heap.get?_push_of_some _ (Heap.get?_push_of_some _ x)⟩
theorem wpAny_pyNext_enum_endT {prog : Program} {w : World} {A : Around} {E : Value → Shared → Prop} {s : Shared} {e it t : Addr} {i : Nat} {items : Array Value} {old : Value} {Q : Option Value → Shared → Prop} (hh : A.handled = none) (he : IsEnum s.heap e it i old)
    (hit : s.heap.IsTupleIter it t i) (ht : s.heap.IsTuple t items) (hx : items[i]? = none) (hQ : ∀ h', Heap.ExtBut it s.heap h' → Q none { s with heap := h' }) : wpAny (model prog w) A (pyNext (.ref e)) Q E s := by
  have hT : s.TypeIs (.ref e) "enumerate" := ⟨_, he, rfl⟩
  unfold pyNext
  refine wpAny_bind (wpAny_attempt (wpAny_callSpecial?_slot (name := Str.ofString "__next__") hT F.slot_enumerate_next (wpAny_call_entry F.slot_enumerate_next hT F.entry_enumerate_next ?_ (F.args_enumerate_next_1 _))))
  show wpAny _ _ (field (.ref e) 2 >>= _) _ _ _
  refine wpAny_bind (wpAny_field he rfl (x := .ref it) rfl (wpAny_bind (wpAny_nextOf_tuple_end hh hit ht hx fun h' x he' hx' => ?_)))
  obtain ⟨o, ho, hc⟩ := hx'
  exact wpAny_bind (wpAny_isInstance (T := "StopIteration") (b := true) ⟨o, ho, hc⟩ isSubtype_stop (wpAny_pure (hQ _ he')))
def IteT (K : Fg) (a : Addr) : It :=
  ⟨fun i H => ∃ (xs : List V) (x : V), SqT K H a xs ∧ xs[i]? = some x, fun i H v H' => ∃ T x, v = .ref T ∧ H T = none ∧ H' = upd H T (.tup [.int (i : Nat), x]) ∧ ∀ xs, SqT K H a xs → xs[i]? = some x, fun i H => ∃ xs : List V, SqT K H a xs ∧ xs.length ≤ i⟩
theorem turn_enumT {P : Program} {w : World} {K : Fg} {elts : List Expr} {kk : Nat} {tpos : Pos} (a e it : Addr) :
    Turn P w K (.Tuple elts kk tpos) (IteT K a) [e, it] e (fun i h => (∃ old, IsEnum h e it ((i : Nat) : Int) old) ∧ h.IsTupleIter it a i ∧ e ≠ it ∧ a ≠ it ∧ e ≠ a) where
  mem := List.mem_cons_self
  obj := by
    rintro i h ⟨⟨old, he⟩, ⟨o, ho, hc, hd⟩, _⟩ b hb
    rcases List.mem_cons.mp hb with z | z
    · exact ⟨_, by rw [z]; exact he, fun v q => (by cases q)⟩
    · obtain rfl : b = it := by simpa using z
      exact ⟨o, ho, fun v q => by rw [hd] at q; cases q⟩
  keep := by
    rintro i h h' ⟨⟨old, he⟩, hi, hne⟩ k
    exact ⟨⟨old, k e (by simp) _ he⟩, hi.at fun o q => k it (by simp) o q, hne⟩
  item := by
    intro X hP hw hK hc i pins s σ H E I hf st hg
    subst hP hw hK
    obtain ⟨⟨old, he⟩, hit, hne, hai, hea⟩ := st
    obtain ⟨xs, x, hq, hx⟩ := hg
    obtain ⟨its, rv, p, hz⟩ := I.tuple hq
    obtain ⟨u, hu, ru⟩ := rv.get hx
    have hel : e < s.heap.objs.size := Heap.lt_size he
    have hil : it < s.heap.objs.size := by obtain ⟨_, q, _⟩ := hit; exact Heap.lt_size q
    have hu2 : its.toArray[i]? = some u := by simpa using hu
    have hlt : i < its.toArray.size := (Array.getElem?_eq_some_iff.mp hu2).1
    have pt : s.heap.IsTuple a its.toArray := p
    refine wpAny_pyNext_enum_itemD (Draws.tuple (show X.A.in1.handled = none from I.ok.hd hc) it a hai its.toArray) he ⟨hit, pt⟩ hlt hne (by simp [hne, hea]) fun x1 h' tk hx1 ho st1 hT hsz hk => ?_
    have ex : x1 = u := by
      have hx1 : its.toArray[i]? = some x1 := hx1
      rw [hu2] at hx1
      exact (Option.some.inj hx1).symm
    subst ex
    refine ⟨_, rfl, wpAny_letOwnedTupleGo_enum (s := { s with heap := h', toks := tk + 1 }) ho fun h'' he' sb => ?_⟩
    have hT2 : h''.get? s.heap.objs.size = some { cls := .type "tuple", data := .seq #[.int i tk, x1] } := (sb.2 _ (Nat.ne_of_gt hel)).trans hT
    have new : ObjOk X.prog X.w (upd H s.heap.objs.size (.tup [.int (i : Nat), x])) h'' s.heap.objs.size (.tup [.int (i : Nat), x]) :=
      ⟨show 2 ≤ sizeLine by decide, [.int i tk, x1], .cons ⟨_, rfl⟩ (.cons ru .nil), ⟨_, hT2, rfl, _, rfl⟩⟩
    have I1 : Inv X pins σ (upd H s.heap.objs.size (.tup [.int (i : Nat), x])) { s with heap := h'', toks := tk + 1 } :=
      I.turnedNew (ch := [e, it]) (fun b ob hb q => by
        have hb1 : b ≠ e := fun z => hb (by simp [z])
        have hb2 : b ≠ it := fun z => hb (by simp [z])
        exact (sb.2 b hb1).trans (hk b ob hb1 hb2 q)) hf (Nat.le_refl _) new
    refine ⟨.ref s.heap.objs.size, _, I1, rfl, ⟨_, x, rfl, I.hok.fresh (Nat.le_refl _), rfl, fun ys hy => by rw [I.tuple_inj hy hq]; exact hx⟩, ⟨⟨x1, ?_⟩, st1.1.at fun o q => (sb.2 it (Ne.symm hne)).trans q, hne, hai, hea⟩, fun b hb => ?_⟩
    · have e1 : ((i + 1 : Nat) : Int) = (i : Int) + 1 := by omega
      rw [e1]; exact he'
    · have hb' : b < s.heap.objs.size := by
        rcases List.mem_cons.mp hb with z | z
        · rw [z]; exact hel
        · rw [show b = it by simpa using z]; exact hil
      rw [upd_ne (Nat.ne_of_lt hb')]
      exact (hf b hb).1
  done := by
    intro X hP hw hK hc i pins s σ H E I hf st hg
    subst hP hw hK
    obtain ⟨⟨old, he⟩, hit, hne, hai, hea⟩ := st
    obtain ⟨xs, hq, hx⟩ := hg
    obtain ⟨its, rv, p, hz⟩ := I.tuple hq
    obtain ⟨f0, f1, f2, f3, f4, f5⟩ := hf it (by simp)
    have pt : s.heap.IsTuple a its.toArray := p
    have hl := rv.length
    have fin : ∀ h' : Heap, Heap.ExtBut it s.heap h' → (none : Option Value) = none ∧ Inv X pins σ H { s with heap := h' } := fun h' eb => ⟨rfl, I.turned (t' := s.toks) (fun b o hb q => eb b o hb q) f0 f1 f3 f4 f5⟩
    refine wpAny_pyNext_enum_endT (I.ok.hd hc) he hit pt (by simp; omega) fin
  self := fun A i s Q E st h => wpAny_pyIter_enum st.1.choose_spec h
def iEnumQ (K : Fg) (ta : TA) : TI := fun σ H R => ta σ H fun vs H1 => ∃ a, vs = [.ref a] ∧ (((∃ xs, SqL K H1 a xs) ∧ R (Ite K a) H1) ∨ ((∃ xs, SqT K H1 a xs) ∧ R (IteT K a) H1))
theorem pi_enumQ {X : Cx} {e : Expr} {ta : TA} {p pos tpos : Pos} {elts : List Expr} {kk : Nat} (hg : Gl X "enumerate") (hm : X.mg "enumerate" = none) (ha : PA X [e] ta) (hs : starEach [e] X.env = [(false, eval e X.env)]) : PI X (.Tuple elts kk tpos) (.Call (.Name "enumerate" p) [e] [] pos) (iEnumQ X.K ta) := by
  constructor
  intro pins s σ H R I h
  refine Call_ (ld_blt I hg hm boot_enumerate (PyProof.Rows.callWith_type1 (thn (ha.run pos pins s σ H _ I h) fun us s1 ⟨vs, H1, I1, r1, q1⟩ => ?_) hs rfl))
  obtain ⟨a, rfl, q⟩ := q1
  obtain ⟨u, rfl, r⟩ := vals1 r1
  obtain rfl : u = .ref a := r
  have fp : ∀ b ∈ [s1.heap.objs.size + 1, s1.heap.objs.size], FpOk X pins H1 b := fun b hb => by
    have hle : s1.heap.objs.size ≤ b := by
      rcases List.mem_cons.mp hb with z | z
      · rw [z]; exact Nat.le_add_right _ _
      · rw [show b = s1.heap.objs.size by simpa using z]; exact Nat.le_refl _
    exact I1.fpOk hle (I1.hok.fresh hle)
  rcases q with ⟨⟨xs, hq⟩, q⟩ | ⟨⟨xs, hq⟩, q⟩
  · obtain ⟨its, rv, p', hz⟩ := I1.list hq
    exact call_enumerate_list p'.isList fun h' he hit hsz hk => wpAny_pyIter_enum he ⟨s1.heap.objs.size + 1, [s1.heap.objs.size + 1, s1.heap.objs.size], _, _, H1, rfl, I1.kept (t' := s1.toks) hk, turn_enum a (s1.heap.objs.size + 1) s1.heap.objs.size, ⟨⟨.none, he⟩, hit, Nat.succ_ne_self _⟩, fp, q⟩
  · obtain ⟨its, rv, p', hz⟩ := I1.tuple hq
    have pt : s1.heap.IsTuple a its.toArray := p'
    have hal : a < s1.heap.objs.size := by obtain ⟨o, ho, _⟩ := pt; exact Heap.lt_size ho
    exact call_enumT pt fun h' he hit hk => wpAny_pyIter_enum he ⟨s1.heap.objs.size + 1, [s1.heap.objs.size + 1, s1.heap.objs.size], _, _, H1, rfl, I1.kept (t' := s1.toks) hk, turn_enumT a (s1.heap.objs.size + 1) s1.heap.objs.size, ⟨⟨.none, he⟩, hit, Nat.succ_ne_self _, Nat.ne_of_lt hal, Nat.ne_of_gt (Nat.lt_succ_of_lt hal)⟩, fp, q⟩
def numbered : Nat → List D → List D
  | _, [] => []
  | i, d :: ds => .tup [.int (i : Nat), d] :: numbered (i + 1) ds
theorem numbered_length : ∀ (i : Nat) (ds : List D), (numbered i ds).length = ds.length
  | _, [] => rfl
  | i, d :: ds => congrArg (· + 1) (numbered_length (i + 1) ds)
theorem numbered_get : ∀ (i : Nat) (ds : List D) (j : Nat) (e : D), (numbered i ds)[j]? = some e → ∃ d, ds[j]? = some d ∧ e = .tup [.int ((i + j : Nat) : Int), d]
  | _, [], j, e, h => by simp [numbered] at h
  | i, d :: ds, 0, e, h => by
    simp [numbered] at h
    exact ⟨d, rfl, h.symm⟩
  | i, d :: ds, j + 1, e, h => by
    obtain ⟨d', h1, h2⟩ := numbered_get (i + 1) ds j e (by simpa [numbered] using h)
    refine ⟨d', by simpa using h1, ?_⟩
    rw [h2]
    have z : i + 1 + j = i + (j + 1) := by omega
    rw [z]
theorem walk_enum {K : Fg} {S1 H1 : Hp} {a : Addr} {ys : List V} {items : List D} {i : Nat} (h1 : SqL K H1 a ys) (r1 : Reps K S1 ys items) :
    (∀ d, (numbered 0 items)[i]? = some d → (Ite K a).go i H1 ∧ ∀ v H2, (Ite K a).yld i H1 v H2 → YldOk K S1 H1 v d H2) ∧ ((numbered 0 items).length ≤ i → (Ite K a).stop i H1) := by
  refine ⟨fun d hd => ?_, fun hl => ⟨ys, h1, by rw [r1.length]; rw [numbered_length] at hl; exact hl⟩⟩
  obtain ⟨d', hd', rfl⟩ := numbered_get 0 items i d hd
  obtain ⟨v, hv, hr⟩ := r1.get hd'
  refine ⟨⟨ys, v, h1, hv⟩, fun u H2 y => ?_⟩
  obtain ⟨T, x, rfl, hT, rfl, hx⟩ := y
  have := hx ys h1
  rw [hv] at this; cases this
  refine .inr ⟨T, _, _, rfl, rfl, hT, rfl, .cons ?_ (.cons hr .nil)⟩
  rw [Nat.zero_add]
  exact .int _
theorem walk_enumT {K : Fg} {S1 H1 : Hp} {a : Addr} {ys : List V} {items : List D} {i : Nat} (h1 : SqT K H1 a ys) (r1 : Reps K S1 ys items) :
    (∀ d, (numbered 0 items)[i]? = some d → (IteT K a).go i H1 ∧ ∀ v H2, (IteT K a).yld i H1 v H2 → YldOk K S1 H1 v d H2) ∧ ((numbered 0 items).length ≤ i → (IteT K a).stop i H1) := by
  refine ⟨fun d hd => ?_, fun hl => ⟨ys, h1, by rw [r1.length]; rw [numbered_length] at hl; exact hl⟩⟩
  obtain ⟨d', hd', rfl⟩ := numbered_get 0 items i d hd
  obtain ⟨v, hv, hr⟩ := r1.get hd'
  refine ⟨⟨ys, v, h1, hv⟩, fun u H2 y => ?_⟩
  obtain ⟨T, x, rfl, hT, rfl, hx⟩ := y
  have := hx ys h1
  rw [hv] at this; cases this
  refine .inr ⟨T, _, _, rfl, rfl, hT, rfl, .cons ?_ (.cons hr .nil)⟩
  rw [Nat.zero_add]
  exact .int _
theorem walks_enum {K : Fg} {F S H0 : Hp} {v : V} {d : D} {items : List D} (h : At K S H0 v d) (hi : dItems d = some items) (hs : ∀ S1 H1, Same S S1 → Same S1 H1 → Same F H1 → At K S1 H1 v d) :
    ∃ a, v = .ref a ∧ (((∃ xs, SqL K H0 a xs) ∧ Walks K F S (Ite K a) (numbered 0 items)) ∨ ((∃ xs, SqT K H0 a xs) ∧ Walks K F S (IteT K a) (numbered 0 items))) := by
  cases h with
  | non => cases hi
  | bl _ => cases hi
  | int _ => cases hi
  | str _ => cases hi
  | dct _ _ => cases hi
  | exc _ _ => cases hi
  | dcT _ _ _ => cases hi
  | obj _ _ _ _ => cases hi
  | @lst a xs ds h r =>
    cases hi
    refine ⟨a, rfl, .inl ⟨⟨xs, SqL.of h⟩, fun i S1 H1 s1 s2 s3 => ?_⟩⟩
    cases hs S1 H1 s1 s2 s3 with
    | lst h1 r1 => exact walk_enum (SqL.of h1) r1
  | @scr a ns h =>
    cases hi
    refine ⟨a, rfl, .inl ⟨⟨_, h⟩, fun i S1 H1 s1 s2 s3 => ?_⟩⟩
    cases hs S1 H1 s1 s2 s3 with
    | scr h1 => exact walk_enum h1 (Reps.of_ints ns)
  | @tup a xs ds h r =>
    cases hi
    refine ⟨a, rfl, .inr ⟨⟨xs, SqT.of h⟩, fun i S1 H1 s1 s2 s3 => ?_⟩⟩
    cases hs S1 H1 s1 s2 s3 with
    | tup h1 r1 => exact walk_enumT (SqT.of h1) r1
def qEnum (qe : TEq) : TIq := fun env k x => qe env (fun y env1 => ∃ items env2, itemsV env1 y = some (items, env2) ∧ k (numbered 0 items) env2) x
theorem qi_enum {X : Cx} {g : Gd} {W : WX} {e : Expr} {te : TE} {qe : TEq} {p pos tpos : Pos} {elts : List Expr} {kk : Nat} (hg : Gl X "enumerate") (hm : X.mg "enumerate" = none) (he : QE X g W e te qe) (hs : starEach [e] X.env = (false, eval e X.env) :: starEach [] X.env := by rfl) :
    QI X g W (.Tuple elts kk tpos) (.Call (.Name "enumerate" p) [e] [] pos) (iEnumQ X.K (tCons te tNil)) (qEnum qe) :=
  ⟨pi_enumQ hg hm (pa_cons he.pe pa_nil hs) hs, fun N F P S b σ H env k x R Rl hq hx hk => by
    refine he.sm N F P S b σ H env _ x _ Rl hq hx fun S1 H1 env1 v y R1 e1 r1 h1 => ?_
    obtain ⟨items, env2, hi, h2⟩ := h1
    obtain ⟨S2, d, R2, e2, hd, ha, hw⟩ := itemsV_ok R1 r1 hi
    obtain ⟨a, rfl, z⟩ := walks_enum (F := F) ha hd hw
    refine ⟨a, rfl, ?_⟩
    rcases z with ⟨z1, z3⟩ | ⟨z1, z3⟩
    · exact .inl ⟨z1, hk S2 H1 env2 _ _ R2 (e1.trans e2) z3 h2⟩
    · exact .inr ⟨z1, hk S2 H1 env2 _ _ R2 (e1.trans e2) z3 h2⟩⟩
end Q
set_option Elab.async false
set_option linter.all false
set_option maxRecDepth 100000
set_option maxHeartbeats 2000000
set_option autoImplicit false
namespace Q
open PySem PySem.Spec PyProof.Rows L2
def tyN : D → String
  | .non => "NoneType"
  | .bl _ => "bool"
  | .int _ => "int"
  | .str _ => "str"
  | .lst _ => "list"
  | .scr _ => "list"
  | .tup _ => "tuple"
  | .dct _ => "dict"
  | .exc _ => "exception"
  | .dcT _ => "dict"
  | .obj _ _ _ => "instance"
def isTy (T : String) (d : D) : Bool := tyN d == T || (T == "int" && tyN d == "bool")
def TyQ (K : Fg) (H : Hp) (x : V) (t : Value) : Prop := TyX K H x t ∨ ∃ a nm, x = .ref a ∧ H a = some (keptE (.ref (He.ga K nm)) a) ∧ ExcT K nm ∧ t = .ref (He.ga K nm)
theorem tyX_at {K : Fg} {S H : Hp} {v : V} {d : D} (a : At K S H v d) (hd : ∀ nm, d ≠ .exc nm) (hd2 : ∀ nm a fs, d ≠ .obj nm a fs) : TyX K H v (.type (tyN d)) := by
  have sq : ∀ {a : Addr} {xs : List V}, SqL K H a xs → TyX K H (.ref a) (.type "list") := fun {a xs} h => by
    rcases h with (h | ⟨o, h⟩) | ⟨o, its, n, h1, h2, _⟩
    · exact .base (.lst h)
    · exact .base (.frz h)
    · exact .kList h1 h2
  cases a with
  | non => exact .base .non
  | bl b => exact .base (.bl b)
  | int i => exact .base (.int i)
  | str x => exact .base (.str x)
  | lst h r => exact .base (.lst h)
  | scr h => exact sq h
  | tup h r => exact .base (.tup h)
  | dct h r =>
    rcases h with h | ⟨o, h⟩
    · exact .base (.dK h)
    · exact .fDict h
  | dcT h _ _ => exact .base (.dT h)
  | exc _ _ => exact absurd rfl (hd _)
  | obj _ _ _ _ => exact absurd rfl (hd2 _ _ _)
def tyAsked (T : String) : Bool := T == "int" || T == "bool" || T == "str" || T == "list" || T == "tuple" || T == "dict"
theorem kit_tab : (["NoneType", "bool", "int", "str", "list", "tuple", "dict"].all fun a => ["int", "bool", "str", "list", "tuple", "dict"].all fun T => decide (kitB a T = some (a == T || (T == "int" && a == "bool")))) = true := by decide +kernel
theorem kit_at {K : Fg} {T : String} (h : tyAsked T = true) (d : D) (hd0 : ∀ nm, d ≠ .exc nm) (hd2 : ∀ nm a fs, d ≠ .obj nm a fs) : PySem.W.kitOne K (.type (tyN d)) (.type T) = some (isTy T d) := by
  refine kit_ty ?_
  have hT : T ∈ ["int", "bool", "str", "list", "tuple", "dict"] := by
    unfold tyAsked at h
    simp only [Bool.or_eq_true, beq_iff_eq] at h
    simp only [List.mem_cons, List.not_mem_nil, or_false]
    rcases h with ((((h | h) | h) | h) | h) | h <;> simp [h]
  have hd : tyN d ∈ ["NoneType", "bool", "int", "str", "list", "tuple", "dict"] := by cases d <;> first | (exact absurd rfl (hd0 _)) | (exact absurd rfl (hd2 _ _ _)) | simp [tyN]
  have z := List.all_eq_true.mp (List.all_eq_true.mp kit_tab _ hd) _ hT
  exact of_decide_eq_true z
theorem isTy_exc {T nm} (h : tyAsked T = true) : isTy T (.exc nm) = false := by
  have hT : T ∈ ["int", "bool", "str", "list", "tuple", "dict"] := by
    unfold tyAsked at h
    simp only [Bool.or_eq_true, beq_iff_eq] at h
    simp only [List.mem_cons, List.not_mem_nil, or_false]
    rcases h with ((((h | h) | h) | h) | h) | h <;> simp [h]
  simp only [List.mem_cons, List.not_mem_nil, or_false] at hT
  rcases hT with rfl | rfl | rfl | rfl | rfl | rfl <;> simp [isTy, tyN]
theorem isTy_obj {T nm a fs} (h : tyAsked T = true) : isTy T (.obj nm a fs) = false := by
  have hT : T ∈ ["int", "bool", "str", "list", "tuple", "dict"] := by
    unfold tyAsked at h
    simp only [Bool.or_eq_true, beq_iff_eq] at h
    simp only [List.mem_cons, List.not_mem_nil, or_false]
    rcases h with ((((h | h) | h) | h) | h) | h <;> simp [h]
  simp only [List.mem_cons, List.not_mem_nil, or_false] at hT
  rcases hT with rfl | rfl | rfl | rfl | rfl | rfl <;> simp [isTy, tyN]
theorem ty_at {K : Fg} {S H : Hp} {v : V} {d : D} (a : At K S H v d) : ∃ t, TyQ K H v t ∧ ∀ T, tyAsked T = true → PySem.W.kitOne K t (.type T) = some (isTy T d) := by
  have key : ∀ T, tyAsked T = true → T ∈ ["int", "bool", "str", "list", "tuple", "dict"] := fun T hT => by
    unfold tyAsked at hT
    simp only [Bool.or_eq_true, beq_iff_eq] at hT
    simp only [List.mem_cons, List.not_mem_nil, or_false]
    rcases hT with ((((h | h) | h) | h) | h) | h <;> simp [h]
  by_cases hd2 : ∃ nm b fs, d = .obj nm b fs
  · obtain ⟨nm, b, fs, rfl⟩ := hd2
    cases a with
    | obj h n r x => exact ⟨_, .inl (.base (.ins h x.cl x.ha x.hn x.htk x.hm)), fun T hT => by rw [isTy_obj hT]; exact x.ty T (key T hT)⟩
  replace hd2 : ∀ nm b fs, d ≠ .obj nm b fs := fun nm b fs z => hd2 ⟨nm, b, fs, z⟩
  by_cases hd : ∀ nm, d ≠ .exc nm
  · exact ⟨_, .inl (tyX_at a hd hd2), fun T hT => kit_at hT d hd hd2⟩
  · cases a with
    | exc h x =>
      refine ⟨_, .inr ⟨_, _, rfl, h, x, rfl⟩, fun T hT => ?_⟩
      rw [isTy_exc hT]
      refine x.ty T ?_
      unfold tyAsked at hT
      simp only [Bool.or_eq_true, beq_iff_eq] at hT
      simp only [List.mem_cons, List.not_mem_nil, or_false]
      rcases hT with ((((h | h) | h) | h) | h) | h <;> simp [h]
    | _ => exact absurd (fun nm z => D.noConfusion z) hd
section
variable {X : Cx} {pins : List (Addr × Obj)} {σ : L2.St} {H : Hp} {s : Shared}
theorem kit_ofQ {x : V} {u t : Value} (I : Inv X pins σ H s) (rx : RelV x u) (ty : TyQ X.K H x t) : ∃ P : Heap → Prop, PySem.W.KitX X.K u t P ∧ P s.heap ∧ u ≠ .builtin "__main__.__loader__#opaque" := by
  rcases ty with ty | ⟨a, nm, rfl, h, x, rfl⟩
  · exact kit_of I rx ty
  · cases (show u = Value.ref a from rx)
    obtain ⟨⟨oe, vs, g, z, d⟩, _⟩ := (show ObjOk X.prog X.w H s.heap a (keptE (.ref (He.ga X.K nm)) a) from I.hok a _ h)
    refine ⟨_, PySem.W.handS_kitx_exc (x := a) (ox := oe) x.cl.hg x.cl.hk x.cl.hs x.cl.hd x.cl.ha x.cl.hn x.cl.ht x.cl.hm, ?_, fun z => nomatch z⟩
    obtain ⟨oc, od, oda, osl⟩ := oe
    obtain ⟨h1, h2⟩ := z
    dsimp only at h1 h2 d
    subst h1 h2 d
    exact ⟨g, rfl, rfl, trivial⟩
def rIsiQ (K : Fg) : List V → Hp → VK → Prop := fun xs H Q => ∃ (x c : V) (t u : Value) (b : Bool), xs = [x, c] ∧ ClsV c u ∧ TyQ K H x t ∧ PySem.W.kitOne K t u = some b ∧ Q (.bl b) H
def rIsiTQ (K : Fg) : List V → Hp → VK → Prop := fun xs H Q => ∃ (x : V) (tp : Addr) (cs : List V) (t : Value) (us : List Value) (b : Bool), xs = [x, .ref tp] ∧ H tp = some (.tup cs) ∧ Paired ClsV cs us ∧ TyQ K H x t ∧ PySem.W.kitAny K t us = some b ∧ Q (.bl b) H
theorem call_isiQ : CallR X (.builtin "isinstance") (rIsiQ X.K) := fun pins s σ H xs us Q I r ⟨x, c, t, u, b, e0, k, ty, e, q⟩ => by
  subst e0
  obtain ⟨u1, u2, rfl, r1, r2⟩ := vals2 r
  cases k.eq r2
  obtain ⟨P, Z, p, hx⟩ := kit_ofQ I r1 ty
  exact PySem.W.kia_one Z I.kIn p e hx fun tk => ⟨.bl b, H, I.tok tk, rfl, q⟩
theorem call_isiTQ : CallR X (.builtin "isinstance") (rIsiTQ X.K) := fun pins s σ H xs us Q I r ⟨x, tp, cs, t, ws, b, e0, hT, k, ty, e, q⟩ => by
  subst e0
  obtain ⟨u1, u2, rfl, r1, r2⟩ := vals2 r
  cases (show u2 = Value.ref tp from r2)
  obtain ⟨P, Z, p, hx⟩ := kit_ofQ I r1 ty
  obtain ⟨_, its, rv, ⟨oc, od, dt, sl⟩, h1, h2, n, h3⟩ := (show ObjOk X.prog X.w H s.heap tp (.tup cs) from I.hok tp _ hT)
  cases ClsV.all k rv
  simp only at h2 h3
  subst h2 h3
  exact PySem.W.kia_tup Z I.kIn p h1 e hx fun tk => ⟨.bl b, H, I.tok tk, rfl, q⟩
end
section
variable {X : Cx} {g : Gd} {W : WX} {e a b : Expr} {es : List Expr} {te ta : TE} {tl : TA} {qe qa : TEq} {ql : TAq} {pos p p1 p2 p3 : Pos} {c : Cg}
def qIsi (T : String) (qe : TEq) : TEq := fun env k x => qe env (fun y env1 => ∃ d, res env1 y = some d ∧ k (.d (.bl (isTy T d))) env1) x
theorem q_isi {T : String} {Tn : Str} (hg : Gl X "isinstance") (hm : X.mg "isinstance" = none) (hg2 : Gl X Tn) (hm2 : X.mg Tn = none) (hv2 : bootBuiltins Tn = some (.type T)) (hT : tyAsked T = true) (he : QE X g W e te qe) (hn : Tn ≠ "__name__" := by decide) (hd : (Tn == ("__debug__" : Str)) = false := by decide)
    (hs : starEach [e, .Name Tn p2] X.env = (false, eval e X.env) :: starEach [.Name Tn p2] X.env := by rfl) : QE X g W (.Call (.Name "isinstance" p) [e, .Name Tn p2] [] pos) (tCB (rIsiQ X.K) (tCons te (tCons (tC (.ty T)) tNil))) (qIsi T qe) :=
  ⟨pe_callB call_isiQ hg hm (by decide +kernel) (pa_cons he.pe (pa_cons (pe_bltn (v := .ty T) hg2 hm2 hv2 rfl hn hd) pa_nil) hs) (by decide) (by decide) hs, fun N F P S b σ H env k x Q R hq hx hk => by
    refine he.sm N F P S b σ H env _ x _ R hq hx fun S1 H1 env1 v y R1 e1 r1 h1 => ?_
    obtain ⟨d, hd, h2⟩ := h1
    obtain ⟨t, tq, kt⟩ := ty_at (R1.read r1 hd)
    exact ⟨v, .ty T, _, _, _, rfl, .ty T, tq, kt T hT, hk S1 H1 env1 _ (.d _) R1 e1 (Rep.bl _) h2⟩⟩
def qIsi2 (T U : String) (qe : TEq) : TEq := fun env k x => qe env (fun y env1 => ∃ d, res env1 y = some d ∧ k (.d (.bl (isTy T d || isTy U d))) env1) x
theorem q_isi2 {T U : String} {Tn Un : Str} {j : Nat} {pt : Pos} (hg : Gl X "isinstance") (hm : X.mg "isinstance" = none) (hg2 : Gl X Tn) (hm2 : X.mg Tn = none) (hv2 : bootBuiltins Tn = some (.type T)) (hT : tyAsked T = true) (hg3 : Gl X Un) (hm3 : X.mg Un = none) (hv3 : bootBuiltins Un = some (.type U)) (hU : tyAsked U = true)
    (he : QE X g W e te qe) (hn : Tn ≠ "__name__" := by decide) (hd : (Tn == ("__debug__" : Str)) = false := by decide) (hn3 : Un ≠ "__name__" := by decide) (hd3 : (Un == ("__debug__" : Str)) = false := by decide)
    (hs : starEach [e, .Tuple [.Name Tn p2, .Name Un p3] j pt] X.env = (false, eval e X.env) :: starEach [.Tuple [.Name Tn p2, .Name Un p3] j pt] X.env := by rfl) :
    QE X g W (.Call (.Name "isinstance" p) [e, .Tuple [.Name Tn p2, .Name Un p3] j pt] [] pos) (tCB (rIsiTQ X.K) (tCons te (tCons (tTup (tCons (tC (.ty T)) (tCons (tC (.ty U)) tNil))) tNil))) (qIsi2 T U qe) :=
  ⟨pe_callB call_isiTQ hg hm (by decide +kernel) (pa_cons he.pe (pa_cons (pe_tup (pa_cons (pe_bltn (v := .ty T) hg2 hm2 hv2 rfl hn hd) (pa_cons (pe_bltn (v := .ty U) hg3 hm3 hv3 rfl hn3 hd3) pa_nil))) pa_nil) hs) (by decide) (by decide) hs, fun N F P S b σ H env k x Q R hq hx hk => by
    refine he.sm N F P S b σ H env _ x _ R hq hx fun S1 H1 env1 v y R1 e1 r1 h1 => ?_
    obtain ⟨d, hd, h2⟩ := h1
    refine ⟨show 2 ≤ sizeLine by decide, fun tp htp => ?_⟩
    have R2 := R1.alloc (o := .tup [.ty T, .ty U]) htp
    obtain ⟨t, tq, kt⟩ := ty_at (R2.read r1 hd)
    have k1 := kt T hT
    have k2 := kt U hU
    refine ⟨v, tp, _, _, _, isTy T d || isTy U d, rfl, upd_same, .cons (.ty T) (.cons (.ty U) .nil), tq, kitAny_cons k1 (fun h => ?_) (fun h => by rw [h]; rfl), hk S1 _ env1 _ (.d _) R2 e1 (Rep.bl _) h2⟩
    rw [h, Bool.false_or]
    exact kitAny_cons k2 (fun h => by rw [h]; rfl) fun h => h⟩
mutual
/-- a datum as it lies in the heap; no dict of it is the table of modules -/
inductive RdN (h : Heap) : Value → PyData → Prop
  | none : RdN h .none .none
  | bool (b : Bool) : RdN h (.bool b) (.bool b)
  | int (i : Int) (t : Tok) : RdN h (.int i t) (.int i)
  | str (x : Str) (t : Tok) : RdN h (.str x t) (.str x)
  | list {a : Addr} {o : Obj} {vs : Array Value} {n : Nat} {xs : List PyData} : h.get? a = some o → o.cls = .type "list" → o.data = .seq vs n → RdNs h vs.toList xs → RdN h (.ref a) (.list xs)
  | tuple {a : Addr} {o : Obj} {vs : Array Value} {n : Nat} {xs : List PyData} : h.get? a = some o → o.cls = .type "tuple" → o.data = .seq vs n → RdNs h vs.toList xs → RdN h (.ref a) (.tuple xs)
  | dict {a : Addr} {o : Obj} {es : Array DictEntry} {n : Nat} {kvs : List (PyData × PyData)} : h.get? a = some o → o.cls = .type "dict" → o.data = .dict es n → (a == sysModules) = false →
      RdNs h (es.toList.map (·.key)) (kvs.map (·.1)) → RdNs h (es.toList.map (·.val)) (kvs.map (·.2)) → RdN h (.ref a) (.dict kvs)
inductive RdNs (h : Heap) : List Value → List PyData → Prop
  | nil : RdNs h [] []
  | cons {v : Value} {vs : List Value} {d : PyData} {ds : List PyData} : RdN h v d → RdNs h vs ds → RdNs h (v :: vs) (d :: ds)
end
section
variable {h₀ : Heap} {prog : Program} {w : World}
mutual
theorem RdN.reads : ∀ {v : Value} {d : PyData}, RdN h₀ v d → ∃ as, Reads h₀ v d as
  | _, _, .none => ⟨_, .none⟩
  | _, _, .bool b => ⟨_, .bool b⟩
  | _, _, .int i t => ⟨_, .int i t⟩
  | _, _, .str x t => ⟨_, .str x t⟩
  | _, _, .list h1 h2 h3 h4 => let ⟨_, r⟩ := RdNs.reads h4; ⟨_, .list h1 h2 h3 r⟩
  | _, _, .tuple h1 h2 h3 h4 => let ⟨_, r⟩ := RdNs.reads h4; ⟨_, .tuple h1 h2 h3 r⟩
  | _, _, .dict h1 h2 h3 _ h4 h5 => let ⟨_, r⟩ := RdNs.reads h4; let ⟨_, r2⟩ := RdNs.reads h5; ⟨_, .dict h1 h2 h3 r r2⟩
theorem RdNs.reads : ∀ {vs : List Value} {ds : List PyData}, RdNs h₀ vs ds → ∃ as, ReadsAll h₀ vs ds as
  | _, _, .nil => ⟨_, .nil⟩
  | _, _, .cons r rs => let ⟨_, r⟩ := RdN.reads r; let ⟨_, r2⟩ := RdNs.reads rs; ⟨_, .cons r r2⟩
end
end
mutual
def plainD : D → Bool
  | .lst xs => plainDs xs
  | .tup xs => plainDs xs
  | .dct kvs => plainKs kvs
  | .exc _ => false
  | .dcT _ => false
  | .obj _ _ _ => false
  | _ => true
def plainDs : List D → Bool
  | [] => true
  | x :: xs => plainD x && plainDs xs
def plainKs : List (Key × D) → Bool
  | [] => true
  | (_, x) :: xs => plainD x && plainKs xs
end
section
variable {pins : List (Addr × Obj)} {σ : L2.St} {H : Hp} {s : Shared}
end
structure ShowOk (d : D) : Prop where
  plain : plainD d = true
  able : (toP d).showable = true
  deep : (toP d).depth ≤ 60
  small : (toP d).shown.length ≤ 10000000
def dd (ns : List Int) : List Int := PyProof.Rows.firstMet (fun i => ns.getD i 0) ns.length
def tLenSetQ (K : Fg) (ta : TE) : TE := fun σ H Q => ta σ H fun x H1 => ∃ (l : Addr) (ns : List Int), x = .ref l ∧ SqL K H1 l (ns.map V.int) ∧ ns.length ≤ 4000 ∧ Q (.int ((dd ns).length : Nat)) H1
theorem pe_lenSetQ {q : Pos} (hg : Gl X "len") (hm : X.mg "len" = none) (hg2 : Gl X "set") (hm2 : X.mg "set" = none) (ha : PE X a ta) (hc : X.calm = true) (na : starEach [a] X.env = (false, eval a X.env) :: starEach [] X.env) :
    PE X (.Call (.Name "len" p) [.Call (.Name "set" p2) [a] [] q] [] pos) (tLenSetQ X.K ta) := by
  constructor
  intro pins s σ H Q I h
  refine Call_ (ld_blt I hg hm boot_len (PyProof.Rows.callWith_builtin1 (PyProof.Rows.args_cons (Call_ (ld_blt I hg2 hm2 boot_set ?_)) rfl) rfl rfl))
  refine PyProof.Rows.callWith_type1 (PyProof.Rows.args_cons (thn (ha.run pins s σ H _ I h) fun v s1 ⟨x, H1, I1, r1, q1⟩ => PyProof.Rows.args_nil ?_) na) na rfl
  obtain ⟨l, ns, rfl, hq, hl, q1⟩ := q1
  obtain rfl : v = .ref l := r1
  obtain ⟨its, r, pl, hz⟩ := I1.list hq
  have hlen : its.toArray.size = ns.length := by rw [List.size_toArray, ← r.length, List.length_map]
  refine call_set_list (I1.ok.hd hc) pl.isList (by rw [show its.toArray.toList = its by simp]; exact RZ.intsAre_vals r) (by rw [hlen]; unfold scanBound; omega) fun h' tk hS hk => PyProof.Rows.args_nil ?_
  rw [hlen] at hS
  obtain ⟨o, es, ep, t, ho, hex, hd, _, _, _, hf, hn⟩ := hS
  have I2 : Inv X pins σ H1 { s1 with heap := h', toks := tk } := I1.kept fun b o e => hk b o (Heap.lt_size e) e
  have hle : (dd ns).length ≤ ns.length := PyProof.Rows.firstMet_length_le _ _
  exact call_len_set ho hex hd hf (by
    rw [hn]
    have z : ((dd ns).length : Int) < 2 ^ 63 := by omega
    exact z) ⟨.int (dd ns).length, H1, I2.tok _, ⟨_, by rw [hn]; rfl⟩, q1⟩
def qLenSet (qa : TEq) : TEq := fun env k x => qa env (fun y env1 => ∃ ns : List Int, res env1 y = some (.lst (ns.map .int)) ∧ ns.length ≤ 4000 ∧ k (.d (.int ((dd ns).length : Nat))) env1) x
theorem q_lenSet {q : Pos} (hg : Gl X "len") (hm : X.mg "len" = none) (hg2 : Gl X "set") (hm2 : X.mg "set" = none) (ha : QE X g W a ta qa) (hc : X.calm = true := by rfl) (na : starEach [a] X.env = (false, eval a X.env) :: starEach [] X.env := by rfl) :
    QE X g W (.Call (.Name "len" p) [.Call (.Name "set" p2) [a] [] q] [] pos) (tLenSetQ X.K ta) (qLenSet qa) :=
  ⟨pe_lenSetQ hg hm hg2 hm2 ha.pe hc na, fun N F P S b σ H env k x Q R hq hx hk => by
    refine ha.sm N F P S b σ H env _ x _ R hq hx fun S1 H1 env1 v y R1 e1 r1 h1 => ?_
    obtain ⟨ns, hd, hl, h2⟩ := h1
    have z := R1.read r1 hd
    cases z with
    | lst h r => exact ⟨_, ns, rfl, by rw [← r.ints]; exact SqL.of h, hl, hk S1 H1 env1 _ (.d _) R1 e1 (Rep.int _) h2⟩⟩
def OwnM (K : Fg) (r : V → List V → Hp → VK → Prop) (f : D → List D → (D → D → Prop) → Prop) : Prop := ∀ (S H : Hp) (p : Addr) (d : D) (vs : List V) (ds : List D) (k : D → D → Prop) (Q : VK), Same S H → OwnAt K S H p d → S p = none → Reps K S vs ds → f d ds k →
  (∀ w z o d', Rep K S w z → OwnAt K S (upd H p o) p d' → k z d' → Q w (upd H p o)) → r (.ref p) vs H Q
def isL : D → Bool
  | .lst _ => true
  | _ => false
def qMeth (f : D → List D → (D → D → Prop) → Prop) (i : Nat) (ql : TAq) : TEq := fun env k x => (∃ d0, env[i]? = some (.own d0) ∧ isL d0 = true) ∧ ql env (fun ys env1 => ∃ ds env2 d, shs ys env1 = some (ds, env2) ∧ env2[i]? = some (.own d) ∧ f d ds fun z d' => k (.d z) (env2.set i (.own d'))) x
theorem sm_meth {i : Nat} {r : V → List V → Hp → VK → Prop} {f : D → List D → (D → D → Prop) → Prop} (h : OwnM c.K r f) (ha : SmA c W tl ql) : Sm c W (tBM c.K "list" r (tVar i) tl) (qMeth f i ql) := by
  intro F P S b σ H env k x Q R hq hx hk
  obtain ⟨⟨d0, h0, hL⟩, hq⟩ := hq
  obtain ⟨v, hv, hs⟩ := R.slot h0
  cases v with
  | none => exact hs.elim
  | some v =>
    obtain ⟨p, rfl, hp, hS, hb, ho⟩ := hs
    refine ⟨.ref p, hv, ?_, ?_⟩
    · cases ho with
      | lst h r => exact .inl ⟨rfl, _, SqL.of h⟩
      | dct h r => cases hL
      | dcT _ _ _ => cases hL
      | obj _ _ _ _ => cases hL
    · refine ha F P S b σ H env _ x _ R hq hx fun S1 H1 env1 vs ys R1 e1 r1 h1 => ?_
      obtain ⟨ds, env2, d, hd, hi, hf⟩ := h1
      obtain ⟨S2, R2, e2, r2⟩ := shs_ok R1 r1 hd
      obtain ⟨a1, a2, a3, a4⟩ := R2.ownAt hv hi
      exact h S2 H1 p d vs ds _ Q R2.sh a4 a2 r2 hf fun w z o d' hz hn kz => hk S2 (upd H1 p o) _ w (.d z) (R2.write hv hi hn) (e1.trans e2) hz kz
theorem q_meth {m x : Str} {id : String} {i : Nat} {r : V → List V → Hp → VK → Prop} {f : D → List D → (D → D → Prop) → Prop} {apos cpos : Pos} (slot : Slot "list" m id) (hty : typeOf (.builtin id) = pure (.type "method_descriptor")) (hm : MtR X id r) (h : OwnM X.K r f) (hN : X.N[i]? = some x) (hv : Vis X.env.scope x) (ha : QA X g W (e :: es) tl ql)
    (hd : (x == ("__debug__" : Str)) = false := by decide) (hcd : (x == ("__classdict__" : Str)) = false := by decide)
    (hbase : attributeBase (.Name x p) m X.env (eval (.Name x p) X.env) = eval (.Name x p) X.env := by rfl)
    (hfew : ((backTo cpos (starEach (e :: es) X.env)).all (fun x => !x.1) && (backToKw cpos (keywordEach [] X.env)).all (fun x => x.1.isSome) && decide ((e :: es).length + ([] : List Keyword).length + (if ([] : List Keyword).isEmpty then 0 else 1) < 30)) = true := by rfl)
    (hline : (apos.endLine == cpos.line) = true := by rfl) (hs : starEach (e :: es) X.env = (false, eval e X.env) :: starEach es X.env := by rfl) (hplain : (backTo cpos (starEach es X.env)).any (·.1) = false := by rfl) :
    QE X g W (.Call (.Attribute (.Name x p) m apos) (e :: es) [] cpos) (tBM X.K "list" r (tVar i) tl) (qMeth f i ql) :=
  ⟨pe_bm PySem.F.plainAttrs_list slot hty hm (pe_var hN hv hd hcd) ha.pa hbase hfew hline hs hplain, fun N => sm_meth (c := cg X g N) h (ha.sm N)⟩
end
section
variable {K : Fg}
def fAppend : D → List D → (D → D → Prop) → Prop
  | .lst ds, [e], k => ds.length < 10000000 ∧ k .non (.lst (ds ++ [e]))
  | _, _, _ => False
theorem reps1 {S : Hp} {vs : List V} {d : D} (h : Reps K S vs [d]) : ∃ v, vs = [v] ∧ Rep K S v d := by
  cases h with
  | cons h r => cases r; exact ⟨_, rfl, h⟩
theorem m_append : OwnM K rAppend fAppend := by
  intro S H p d vs ds k Q s o hp r hf hk
  unfold fAppend at hf
  split at hf
  · obtain ⟨v, rfl, r1⟩ := reps1 r
    cases o with
    | lst h r0 => exact ⟨p, _, v, rfl, rfl, h, by rw [r0.length]; exact size_lt hf.1, hk _ _ _ _ .non (.lst upd_same (r0.append (.cons r1 .nil))) hf.2⟩
  · exact hf.elim
theorem Reps.dropLast {S : Hp} : ∀ {vs : List V} {ds : List D}, Reps K S vs ds → Reps K S vs.dropLast ds.dropLast := fun {vs ds} r => by
  rw [List.dropLast_eq_take, List.dropLast_eq_take, r.length]
  exact r.take _
def fExtend : D → List D → (D → D → Prop) → Prop
  | .lst ds, [.lst es], k => ds.length + es.length < 10000000 ∧ k .non (.lst (ds ++ es))
  | _, _, _ => False
theorem m_extend : OwnM K rExtend fExtend := by
  intro S H p d vs ds k Q s o hp r hf hk
  unfold fExtend at hf
  split at hf
  · obtain ⟨v, rfl, r1⟩ := reps1 r
    cases r1 with
    | lst h1 r1 =>
      cases o with
      | lst h r0 => exact ⟨p, _, _, _, rfl, rfl, h, s _ _ h1, by rw [r0.length, r1.length]; exact size_of (Nat.le_of_lt hf.1), hk _ _ _ _ .non (.lst upd_same (r0.append r1)) hf.2⟩
  · exact hf.elim
end
end Q
set_option Elab.async false
set_option linter.all false
set_option maxRecDepth 100000
set_option maxHeartbeats 2000000
set_option autoImplicit false
namespace Q
open PySem PySem.Spec PyProof.Rows L2
def keyD : D → Option Key
  | .int i => some (.inl i)
  | .str x => some (.inr x)
  | _ => none
def vD (kvs : List (Key × D)) (k : Key) : Option D := (kvs.find? fun kv => decide (kv.1 = k)).map (·.2)
def pD (kvs : List (Key × D)) (k : Key) (v : D) : List (Key × D) :=
  if (kvs.any fun kv => decide (kv.1 = k)) = true then kvs.map (fun kv => if kv.1 = k then (kv.1, v) else kv) else kvs ++ [(k, v)]
theorem vD_cons (p : Key × D) (r : List (Key × D)) (k : Key) : vD (p :: r) k = if p.1 = k then some p.2 else vD r k := by
  unfold vD
  by_cases e : p.1 = k <;> simp [List.find?_cons, e]
theorem vD_any (k : Key) : ∀ kvs : List (Key × D), (kvs.any fun kv => decide (kv.1 = k)) = (vD kvs k).isSome
  | [] => rfl
  | p :: r => by
    rw [List.any_cons, vD_cons, vD_any k r]
    by_cases e : p.1 = k <;> simp [e]
theorem vD_put (kvs : List (Key × D)) (k j : Key) (v : D) : vD (pD kvs k v) j = if j = k then some v else vD kvs j := by
  have hm : ∀ l : List (Key × D), vD (l.map fun kv => if kv.1 = k then (kv.1, v) else kv) j = (vD l j).map fun x => if j = k then v else x := fun l => by
    induction l with
    | nil => rfl
    | cons p r ih =>
      rw [List.map_cons, vD_cons, vD_cons, ih]
      by_cases e : p.1 = k
      · by_cases e2 : p.1 = j
        · simp [e, ← e2]
        · have e3 : ¬ k = j := fun z => e2 (e.trans z)
          simp [e, e2, e3]
      · by_cases e2 : p.1 = j
        · have e3 : ¬ j = k := fun z => e (e2.trans z)
          simp [e, e2, e3]
        · simp [e, e2]
  have ha : ∀ l : List (Key × D), vD (l ++ [(k, v)]) j = match vD l j with | some x => some x | none => if k = j then some v else none := fun l => by
    induction l with
    | nil => rw [List.nil_append, vD_cons]; rfl
    | cons p r ih =>
      rw [List.cons_append, vD_cons, vD_cons, ih]
      by_cases e : p.1 = j <;> simp [e]
  unfold pD
  rw [vD_any]
  cases h : vD kvs k with
  | some y =>
    simp only [Option.isSome_some, if_true]
    rw [hm]
    by_cases e : j = k
    · subst e; rw [h]; simp
    · simp [e]
  | none =>
    simp only [Option.isSome_none]
    rw [if_neg Bool.false_ne_true, ha]
    by_cases e : j = k
    · subst e; simp [h]
    · have e2 : ¬ k = j := fun z => e z.symm
      simp [e, e2]
      cases vD kvs j <;> rfl
theorem pD_length (kvs : List (Key × D)) (k : Key) (v : D) : (pD kvs k v).length ≤ kvs.length + 1 := by
  unfold pD
  split
  · rw [List.length_map]; omega
  · simp
theorem keyV {K : Fg} {S H : Hp} {v : V} {d : D} {k : Key} (a : At K S H v d) (h : keyD d = some k) : v = kV k := by
  cases a <;> simp [keyD] at h <;> subst h <;> rfl
section
variable {K : Fg} {S : Hp}
theorem RepK.val (k : Key) : ∀ {kvs : List (Key × V)} {ds : List (Key × D)}, RepK K S kvs ds → (valV kvs k = none ∧ vD ds k = none) ∨ ∃ v d, valV kvs k = some v ∧ vD ds k = some d ∧ Rep K S v d
  | _, _, .nil => .inl ⟨rfl, rfl⟩
  | _, _, .cons (k := j) (v := v) (vs := vs) (d := d) (ds := ds) h r => by
    by_cases e : j = k
    · subst e
      exact .inr ⟨v, d, by rw [valV_pos rfl], by rw [vD_cons, if_pos rfl], h⟩
    · rw [valV_neg e, vD_cons, if_neg e]
      exact RepK.val k r
theorem RepK.append : ∀ {kvs kvs' : List (Key × V)} {ds ds' : List (Key × D)}, RepK K S kvs ds → RepK K S kvs' ds' → RepK K S (kvs ++ kvs') (ds ++ ds')
  | _, _, _, _, .nil, r => r
  | _, _, _, _, .cons h t, r => .cons h (t.append r)
theorem RepK.put {k : Key} {v : V} {d : D} (hv : Rep K S v d) {kvs : List (Key × V)} {ds : List (Key × D)} (r : RepK K S kvs ds) : RepK K S (putK kvs k v) (pD ds k d) := by
  have hm : ∀ {kvs : List (Key × V)} {ds : List (Key × D)}, RepK K S kvs ds → RepK K S (kvs.map fun kv => if kv.1 = k then (kv.1, v) else kv) (ds.map fun kv => if kv.1 = k then (kv.1, d) else kv) := by
    intro kvs
    induction kvs with
    | nil => intro ds r; cases r; exact .nil
    | cons p kvs ih =>
      intro ds r
      cases r with
      | @cons j v' _ d' ds' h t =>
        rw [List.map_cons, List.map_cons]
        by_cases e : j = k
        · rw [if_pos e, if_pos e]; exact .cons hv (ih t)
        · rw [if_neg e, if_neg e]; exact .cons h (ih t)
  unfold putK pD
  have e : (kvs.any fun kv => decide (kv.1 = k)) = (ds.any fun kv => decide (kv.1 = k)) := by
    rw [valV_any, vD_any]
    rcases r.val k with ⟨h1, h2⟩ | ⟨_, _, h1, h2, _⟩ <;> rw [h1, h2] <;> rfl
  rw [e]
  split
  · exact hm r
  · exact r.append (.cons hv .nil)
end
section
variable {X : Cx} {g : Gd} {W : WX} {e a b f : Expr} {es : List Expr} {te ta tb tc : TE} {tl : TA} {qe qa qb qc : TEq} {ql : TAq} {pos p : Pos} {c : Cg} {tn : TE} {qn : TNq}
def qDNew : TNq := fun env k _ => k (.own (.dct [])) env
theorem qn_dict : QN X g W (.Dict [] [] pos) tDNewK qDNew := ⟨pe_dnewK, fun N F P S b σ H env k x Q R hq _ hk => by
  intro p hp
  have n := R.new hp
  refine hk S _ env (.ref p) (.own (.dct [])) (R.alloc hp) Ext.refl ⟨p, rfl, n.1, n.2.1, n.2.2, .dct upd_same .nil⟩ (fun _ _ i e q hq => ?_) hq
  cases hq
  exact R.notOwn hp i e⟩
theorem res_bind {env : En} {z : Va} {key : Key} (h : (res env z).bind keyD = some key) : ∃ d, res env z = some d ∧ keyD d = some key := by
  cases e : res env z with
  | none => rw [e] at h; cases h
  | some d => rw [e] at h; exact ⟨d, rfl, h⟩
def qDPut (i : Nat) (qk qv : TEq) : TSq := fun DQ env => qv env (fun w env1 => (∃ d0, (env1[i]?) = some (.own d0)) ∧ qk env1 (fun z env2 => ∃ e env3 kvs key, sh1 env2 w = some (e, env3) ∧ (res env3 z).bind keyD = some key ∧ env3[i]? = some (.own (.dct kvs)) ∧ kvs.length < 10000000 ∧ DQ.nx (env3.set i (.own (.dct (pD kvs key e))))) DQ.ex) DQ.ex
theorem sm_dput {i : Nat} (hk0 : Sm c W tb qb) (hv : Sm c W ta qa) : SmS c W (sDPut (tVar i) tb ta) (qDPut i qb qa) := by
  intro F P S b σ H env DQ D R hq k
  refine hv F P S b σ H env _ _ _ R hq k.ex fun S1 H1 env1 w y R1 e1 r1 h1 => ?_
  obtain ⟨⟨d0, h0⟩, h1⟩ := h1
  obtain ⟨v, hv, hs⟩ := R1.slot h0
  cases v with
  | none => exact hs.elim
  | some v =>
    obtain ⟨p, rfl, _⟩ := hs
    refine ⟨.ref p, hv, ?_⟩
    refine hk0 F P S1 b σ H1 env1 _ _ _ R1 h1 (k.ex.mono e1) fun S2 H2 env2 u z R2 e2 r2 h2 => ?_
    obtain ⟨e, env3, kvs, key, hs1, hk2, hi, hl, h3⟩ := h2
    obtain ⟨S3, R3, e3, r3⟩ := sh1_ok R2 (r1.mono e2.1) hs1
    obtain ⟨d, hz, hkd⟩ := res_bind hk2
    have a2 := R3.read (r2.mono e3.1) hz
    obtain ⟨a3, a4, a5, a6⟩ := R3.ownAt hv hi
    cases a6 with
    | dct h r =>
      refine ⟨p, _, rfl, .inl ⟨_, key, h, keyV a2 hkd, by rw [r.length]; exact size_lt hl, rfl⟩, ?_⟩
      exact k.nx S3 σ _ _ (R3.write hv hi (.dct upd_same (r.put r3))) (e1.trans (e2.trans e3)) h3
theorem qs_dput {i : Nat} {x : Str} {pos' : Pos} (hu : X.A.units + 1 < cLine) (hN : X.N[i]? = some x) (hv : Vis X.env.scope x) (hk : QE X g W b tb qb) (ha : QE X g W a ta qa) (hd : (x == ("__debug__" : Str)) = false := by decide) (hcd : (x == ("__classdict__" : Str)) = false := by decide)
    (hs : swapsWith a (some (.Subscript (.Name x p) b pos')) pos.line X.env = pure false := by rfl) : QS X g W (.Assign [.Subscript (.Name x p) b pos'] a pos) (sDPut (tVar i) tb ta) (qDPut i qb qa) :=
  ⟨ps_dput hu (pe_var hN hv hd hcd) hk.pe ha.pe hs, fun N => sm_dput (hk.sm N) (ha.sm N)⟩
def qLPut (i : Nat) (qj qv : TEq) : TSq := fun DQ env => qv env (fun w env1 => (∃ d0, (env1[i]?) = some (.own d0)) ∧ qj env1 (fun z env2 => ∃ e env3 ds m j, sh1 env2 w = some (e, env3) ∧ res env3 z = some (.int m) ∧ env3[i]? = some (.own (.lst ds)) ∧ ixN ds.length m = some j ∧ DQ.nx (env3.set i (.own (.lst (ds.set j e))))) DQ.ex) DQ.ex
theorem sm_lput {i : Nat} (hk0 : Sm c W tb qb) (hv : Sm c W ta qa) : SmS c W (tAsg ta (gSub (tVar i) tb rSetL)) (qLPut i qb qa) := by
  intro F P S b σ H env DQ D R hq k
  refine hv F P S b σ H env _ _ _ R hq k.ex fun S1 H1 env1 w y R1 e1 r1 h1 => ?_
  obtain ⟨⟨d0, h0⟩, h1⟩ := h1
  obtain ⟨v, hv, hs⟩ := R1.slot h0
  cases v with
  | none => exact hs.elim
  | some v =>
    obtain ⟨p, rfl, _⟩ := hs
    refine ⟨.ref p, hv, ?_⟩
    refine hk0 F P S1 b σ H1 env1 _ _ _ R1 h1 (k.ex.mono e1) fun S2 H2 env2 u z R2 e2 r2 h2 => ?_
    obtain ⟨e, env3, ds, m, j, hs1, hm, hi, hj, h3⟩ := h2
    obtain ⟨S3, R3, e3, r3⟩ := sh1_ok R2 (r1.mono e2.1) hs1
    have a2 := (R3.read (r2.mono e3.1) hm).scal (w := .int m) rfl
    obtain ⟨a3, a4, a5, a6⟩ := R3.ownAt hv hi
    cases a6 with
    | lst h r =>
      refine ⟨p, _, m, j, rfl, a2, h, by rw [r.length]; exact hj, ?_⟩
      exact k.nx S3 σ _ _ (R3.write hv hi (.lst upd_same (r.set j r3))) (e1.trans (e2.trans e3)) h3
theorem qs_lput {i : Nat} {x : Str} {pos' : Pos} (hN : X.N[i]? = some x) (hv : Vis X.env.scope x) (hk : QE X g W b tb qb) (ha : QE X g W a ta qa) (hd : (x == ("__debug__" : Str)) = false := by decide) (hcd : (x == ("__classdict__" : Str)) = false := by decide)
    (hs : swapsWithSole [.Subscript (.Name x p) b pos'] a pos.line X.env = pure false := by rfl) (hw : swappedStores [.Subscript (.Name x p) b pos'] a X.env = pure none := by rfl)
    (h1 : (assignEach [.Subscript (.Name x p) b pos'] X.env).map (·.2) = [assign (.Subscript (.Name x p) b pos') X.env] := by rfl)
    (h2 : ∀ v, assign (.Subscript (.Name x p) b pos') X.env v = (do
      let ov ← holding [v] (eval (.Name x p) X.env)
      let iv ← holding [v, ov] (eval b X.env)
      standAt pos'
      holding [v, ov, iv] (setItem ov iv v)
      release [v, ov, iv] []) := by intro _; rfl) : QS X g W (.Assign [.Subscript (.Name x p) b pos'] a pos) (tAsg ta (gSub (tVar i) tb rSetL)) (qLPut i qb qa) :=
  ⟨ps_asg ha.pe (pg_sub (pe_var hN hv hd hcd) hk.pe set_list h2) hs hw h1, fun N => sm_lput (hk.sm N) (ha.sm N)⟩
def qRaise (nm : Str) : TSq := fun DQ env => DQ.ex nm [] env
structure ExC (K : Fg) (mg : Str → Option Value) (x : Str) : Prop where
  gl : mg x = some (.ref (He.ga K x))
  ex : PySem.W.excIn K (He.ga K x) He.veBase "ValueError.__new__" = true
  kp : PySem.W.keepIn K (.ref (He.ga K x)) = true
  sb : PySem.W.subIn K (.ref (He.ga K x)) (.type "BaseException") = some true
  ty : PySem.W.typeIn K (.ref (He.ga K x)) = some (.type "type")
theorem qs_raise {x : Str} {m : String} {j : Nat} {p2 p3 : Pos} (T : ExC X.K X.mg x) (tk : Takes X W) (hg : Gl X x) (hc : X.calm = true := by rfl) (hdb : (x == ("__debug__" : Str)) = false := by decide) :
    QS X g W (.Raise (some (.Call (.Name x p) [.Constant (.str m) j p2] [] p3)) none pos) (fun _ σ H => (fun (_ : L2.St) (H : Hp) (Q : XK) => Q (.ref (He.ga X.K x)) none H) σ H fun cls d H' => W cls d σ H') (qRaise x) :=
  ⟨ps_raise hc tk (pmk_own PySem.F.excBase_ValueError T.ex T.gl T.kp (raises_own T.sb T.ty) hg hdb), fun N F P S b σ H env DQ D R hq k => k.ex x [] env S σ H _ none R Ext.refl hq T.gl rfl⟩
end
theorem bud_none {c : Cg} {F P S H : Hp} {σ : L2.St} {env : En} (R : Rel c F P S none σ H env) : bud env = 0 := by
  have nb : ∀ (i : Nat) (n : Nat), env[i]? ≠ some (.bag n) := fun i n h => by
    obtain ⟨v, _, hs⟩ := R.slot h
    cases v with
    | none => exact hs
    | some v => obtain ⟨p, h, _⟩ := hs; cases h
  clear R
  induction env with
  | nil => rfl
  | cons s r ih =>
    have h1 : bw s = 0 := by
      cases s with
      | bag n => exact absurd rfl (nb 0 n)
      | _ => rfl
    show bw s + bud r = 0
    rw [h1, ih fun i n h => nb (i + 1) n (by simpa using h)]
theorem Rel.toBag {K : Fg} {mg : Str → Option Value} {g : Gd} {N N' : Nat} {F P S H : Hp} {σ : L2.St} {env : En} {i n : Nat} {p : Addr} {ds : List D} (R : Rel ⟨K, mg, g, N⟩ F P S none σ H (env.set i (.own (.lst ds)))) (hb : bud (env.set i (.own (.lst ds))) = 0) (h1 : σ[i]? = some (some (.ref p)))
    (h2 : (env.set i (Sl.own (.lst ds)))[i]? = some (.own (.lst ds))) (ok : g.ok ds) (hn : g.cnt ds + n ≤ N') (hN : N' ≤ 2 ^ 60) : Rel ⟨K, mg, g, N'⟩ F P S (some p) σ H (env.set i (.bag n)) := by
  obtain ⟨hP, hS, _, hO⟩ := R.ownAt h1 h2
  have il : i < env.length := by
    have := (List.getElem?_eq_some_iff.mp h2).1
    rwa [List.length_set] at this
  have ei : (env.set i (Sl.bag n))[i]? = some (.bag n) := List.getElem?_set_self il
  have oth : ∀ (j : Nat) (s : Sl), j ≠ i → (env.set i (Sl.bag n))[j]? = some s → (env.set i (Sl.own (.lst ds)))[j]? = some s := fun j s h e => by
    rw [List.getElem?_set_ne (fun z => h z.symm)] at e ⊢; exact e
  have bud2 : bud (env.set i (.bag n)) = n := by
    have z := bud_set (env.set i (Sl.own (.lst ds))) i (.bag n) _ h2
    rw [List.set_set, hb] at z
    have z : bud (env.set i (.bag n)) + 0 = 0 + n := z
    omega
  refine ⟨by rw [List.length_set]; have := R.len; rwa [List.length_set] at this, R.fp, R.ph, R.sh, fun q e => ?_, fun j s v g1 g2 => ?_, fun j k q d d' hjk g1 g2 g3 g4 => ?_⟩
  · cases e
    cases hO with
    | lst h r => exact ⟨hP, hS, _, ds, h, r, ok, by rw [bud2]; exact hn, hN⟩
  · by_cases e : j = i
    · subst e
      rw [ei] at g1; cases g1
      rw [h1] at g2; cases g2
      exact ⟨p, rfl, rfl⟩
    · have h := R.sl j s v (oth j s e g1) g2
      cases s with
      | no => trivial
      | sh d => cases v <;> exact h
      | bor d => cases v <;> exact h
      | bag m =>
        cases v with
        | none => exact h
        | some v => obtain ⟨q, h, _⟩ := h; cases h
      | own d =>
        cases v with
        | none => exact h
        | some v =>
          obtain ⟨q, rfl, h5, h6, _, h8⟩ := h
          exact ⟨q, rfl, h5, h6, fun z => R.ap j i q d _ e g2 (oth j _ e g1) (by cases z; exact h1) h2, h8⟩
  · have nj : j ≠ i := fun e => by rw [e, ei] at g2; cases g2
    have nk : k ≠ i := fun e => by rw [e, ei] at g4; cases g4
    exact R.ap j k q d d' hjk g1 (oth j _ nj g2) g3 (oth k _ nk g4)
def spLaw (K : Fg) : Sp := fun vs H Q _ => ∃ (a : Addr) (ns : List Int), vs = [.ref a] ∧ SqL K H a (ns.map V.int) ∧ ns.length ≤ 63 ∧ ∀ H', Q (.bl true) H'
theorem law_q {P : Program} {w : World} {K : Fg} {mg : Str → Option Value} {base : Heap} {x qual : Str} {params : Arguments} {st : Stmt} {sts : List Stmt} {scope : Scope} {f : Addr} {fd : FuncData} {N ps : List Str} {k i : Nat} (g : Gd)
    (Fn : FunD K x qual params (st :: sts) scope [] [] f fd) (S : FnScope N ps scope) (hl : ps.length = 1) (hl2 : 1 ≤ N.length)
    (hbody : ∀ (cdv : Value) (A : Around) (outer : List Env) (s : Shared) (H : Hp) (E : XK), A.guards = some [] → Room k (A.deeper (envOfC qual scope s.heap.objs.size f cdv)) →
      ∃ te qn t q, PS (cxOf (L2.CX P w) P w K mg base N qual scope f cdv A outer s H E) st (tAsg te (gName i)) ∧ (∀ M, SmN ⟨K, mg, g, M⟩ W0 te qn) ∧ QSs (cxOf (L2.CX P w) P w K mg base N qual scope f cdv A outer s H E) g W0 sts t q ∧
        ∀ ns : List Int, ns.length ≤ 63 → qn (startE N [.bor (.scr ns)]) (fun r env => ∃ ds n, r = .own (.lst ds) ∧ g.ok ds ∧ g.cnt ds + n ≤ 2 ^ 60 ∧ i < env.length ∧ q { nx := fun _ => False, rt := fun r _ => r = .sh (.bl true) } (env.set i (.bag n))) fun _ _ _ => False) : FnG P w K mg base (k + 1) f fd ps (spLaw K) := by
  obtain ⟨oc, od, dV, kV, doc, pm, an, cdv, ct, osl, rfl, lk, hcd, _, _⟩ := Fn.ex
  refine fnG_of lk hcd S (fun vs H Q E h => ?_) fun A outer s H vs Q E hgd hr h => ?_
  · obtain ⟨a, ns, rfl, _⟩ := h
    exact hl.symm
  · obtain ⟨te, qn, t, q, h1, h2, h3, h4⟩ := hbody cdv A outer s H E hgd hr
    refine ⟨_, pss_cons h1 h3.pss, ?_⟩
    obtain ⟨a, ns, rfl, hS, hn, hQ⟩ := h
    have R := rel_start (c := ⟨K, mg, g, 0⟩) (N := N) (F := H) (S := fun _ => none) (H := H) (b := none) (vs := [.ref a]) (as := [.bor (.scr ns)]) (Same.refl H) (fun _ _ e => nomatch e) (fun _ e => nomatch e) (.cons (show At K _ H (.ref a) (.scr ns) from .scr hS) .nil) hl2
    refine h2 0 H H _ none _ H _ _ _ _ R (h4 ns hn) XOk.no fun S1 H1 env1 v y R1 e1 r1 hno hk => ?_
    obtain ⟨ds, n, rfl, ok, hc, hi, hq⟩ := hk
    have R2 := R1.putRv (i := i) r1 hno
    obtain ⟨p, rfl, _⟩ := r1
    have iσ : i < (L2.start N [V.ref a]).length := by rw [← R1.len]; exact hi
    have R3 := R2.toBag (N' := 2 ^ 60) (bud_none R2) (List.getElem?_set_self iσ) (List.getElem?_set_self hi) ok hc (Nat.le_refl _)
    refine h3.sm (2 ^ 60) H H S1 (some p) _ H1 _ _ _ R3 hq ⟨fun _ _ _ _ _ _ z => z.elim, fun S' σ' H' env' v r R' e' ro hk => ?_, fun _ _ _ _ _ _ z => z.elim, fun _ _ _ _ _ _ z => z.elim, XOk.no⟩
    subst hk
    have z : Rep K S' v (.bl true) := ro
    cases z
    exact hQ H'
end Q
set_option Elab.async false
set_option linter.all false
set_option maxRecDepth 100000
set_option maxHeartbeats 2000000
set_option autoImplicit false
namespace Q
open PySem PySem.Spec PyProof.Rows L2
inductive Tk {α : Type} (k : α) : Type where
  | mk : Tk k
def hold {α : Type} (k : α) (_ : Tk k) : α := k
theorem hold1 {α β : Type} {k : α → β} {t : Tk k} (a : α) : hold k t a = k a := rfl
theorem hold2 {α β γ : Type} {k : α → β → γ} {t : Tk k} (a : α) (b : β) : hold k t a b = k a b := rfl
def cIf (c : Bool) (A B : Unit → Prop) : Prop := if c = true then A () else B ()
theorem cIf_t {A B : Unit → Prop} : cIf true A B = A () := rfl
theorem cIf_f {A B : Unit → Prop} : cIf false A B = B () := rfl
theorem cIf_n {c : Bool} {A B : Unit → Prop} : cIf (!c) A B = cIf c B A := by cases c <;> rfl
theorem cIf_i {p : Prop} [Decidable p] {A B : Unit → Prop} (h1 : p → A ()) (h2 : ¬ p → B ()) : cIf (decide p) A B := by
  unfold cIf
  by_cases h : p
  · simp [h, h1 h]
  · simp [h, h2 h]
theorem cIf_b {c : Bool} {A B : Unit → Prop} (h1 : c = true → A ()) (h2 : c = false → B ()) : cIf c A B := by
  cases c
  · exact h2 rfl
  · exact h1 rfl
theorem cIf_l {c : Bool} {A B : Unit → Prop} (h : c = true) (h1 : A ()) : cIf c A B := by subst h; exact h1
theorem cIf_r {c : Bool} {A B : Unit → Prop} (h : c = false) (h1 : B ()) : cIf c A B := by subst h; exact h1

def lk (env : En) (i : Nat) (f : Sl → Prop) : Prop := match env[i]? with
  | some s => f s
  | none => False
theorem lk0 {s : Sl} {l : En} {f : Sl → Prop} : lk (s :: l) 0 f = f s := rfl
theorem lk1 {s : Sl} {l : En} {n : Nat} {f : Sl → Prop} : lk (s :: l) (n + 1) f = lk l n f := rfl
def st (env : En) (i : Nat) (s : Sl) (f : En → Prop) : Prop := f (env.set i s)
theorem st0 {a s : Sl} {l : En} {f : En → Prop} : st (a :: l) 0 s f = f (s :: l) := rfl
theorem st1 {a s : Sl} {l : En} {n : Nat} {f : En → Prop} : st (a :: l) (n + 1) s f = st l n s fun l' => f (a :: l') := rfl
def wp (env : En) (vs : List Nat) (f : En → Prop) : Prop := f (wipeE env vs)
theorem wp0 {env : En} {f : En → Prop} : wp env [] f = f env := rfl
theorem wp1 {env : En} {v : Nat} {vs : List Nat} {f : En → Prop} : wp env (v :: vs) f = wp env vs fun e => st e v .no f := rfl
theorem wpm {env : En} {s : Str} {v : Nat} {own : List (Str × Nat)} {f : En → Prop} : wp env (List.map (fun x => x.2) ((s, v) :: own)) f = wp env (List.map (fun x => x.2) own) fun e => st e v .no f := rfl
theorem wpn {env : En} {f : En → Prop} : wp env (List.map (fun x : Str × Nat => x.2) []) f = f env := rfl
def sD (f : D → Prop) : Sl → Prop
  | .sh d => f d
  | .own d => f d
  | .bor d => f d
  | _ => False
theorem sD_sh {f : D → Prop} {d : D} : sD f (.sh d) = f d := rfl
theorem sD_own {f : D → Prop} {d : D} : sD f (.own d) = f d := rfl
theorem sD_bor {f : D → Prop} {d : D} : sD f (.bor d) = f d := rfl
def rd (env : En) (y : Va) (f : D → Prop) : Prop := ∃ d, res env y = some d ∧ f d
theorem rd_d {env : En} {d : D} {f : D → Prop} : rd env (.d d) f = f d := propext ⟨fun ⟨_, h, q⟩ => (by cases h; exact q), fun q => ⟨d, rfl, q⟩⟩
theorem rd_p {env : En} {i : Nat} {f : D → Prop} : rd env (.ptr i) f = lk env i (sD f) := by
  apply propext
  unfold rd res lk
  dsimp only
  cases env[i]? with
  | none => exact ⟨fun ⟨_, h, _⟩ => (by cases h), fun h => False.elim h⟩
  | some s => cases s <;> first | exact ⟨fun ⟨_, h, q⟩ => (by cases h; exact q), fun q => ⟨_, rfl, q⟩⟩ | exact ⟨fun ⟨_, h, _⟩ => (by cases h), fun h => False.elim h⟩
def dB (f : Bool → Prop) : D → Prop
  | .bl c => f c
  | _ => False
theorem dB_b {f : Bool → Prop} {c : Bool} : dB f (.bl c) = f c := rfl
def dI (f : Int → Prop) : D → Prop
  | .int c => f c
  | _ => False
theorem dI_i {f : Int → Prop} {c : Int} : dI f (.int c) = f c := rfl
def dX (f : List (Key × D) → Prop) : D → Prop
  | .dct c => f c
  | _ => False
theorem dX_x {f : List (Key × D) → Prop} {c : List (Key × D)} : dX f (.dct c) = f c := rfl
def dK (f : Key → Prop) : D → Prop
  | .int c => f (.inl c)
  | .str c => f (.inr c)
  | _ => False
theorem dK_i {f : Key → Prop} {c : Int} : dK f (.int c) = f (.inl c) := rfl
theorem dK_s {f : Key → Prop} {c : Str} : dK f (.str c) = f (.inr c) := rfl
def dL (f : List D → Prop) : D → Prop
  | .lst c => f c
  | _ => False
theorem dL_l {f : List D → Prop} {c : List D} : dL f (.lst c) = f c := rfl
def dIt (f : List D → Prop) : D → Prop
  | .lst c => f c
  | .tup c => f c
  | .scr c => f (c.map .int)
  | _ => False
theorem dIt_l {f : List D → Prop} {c : List D} : dIt f (.lst c) = f c := rfl
theorem dIt_t {f : List D → Prop} {c : List D} : dIt f (.tup c) = f c := rfl
theorem dIt_s {f : List D → Prop} {c : List Int} : dIt f (.scr c) = f (c.map .int) := rfl
theorem rd_B {env : En} {y : Va} {f : Bool → Prop} : (∃ c, res env y = some (.bl c) ∧ f c) = rd env y (dB f) := by
  apply propext
  constructor
  · rintro ⟨c, h, q⟩; exact ⟨_, h, q⟩
  · rintro ⟨d, h, q⟩
    cases d <;> first | exact False.elim q | exact ⟨_, h, q⟩
theorem rd_I {env : En} {y : Va} {f : Int → Prop} : (∃ c, res env y = some (.int c) ∧ f c) = rd env y (dI f) := by
  apply propext
  constructor
  · rintro ⟨c, h, q⟩; exact ⟨_, h, q⟩
  · rintro ⟨d, h, q⟩
    cases d <;> first | exact False.elim q | exact ⟨_, h, q⟩
theorem rd_K {env : En} {y : Va} {f : Key → Prop} : (∃ c, (res env y).bind keyD = some c ∧ f c) = rd env y (dK f) := by
  apply propext
  constructor
  · rintro ⟨c, h, q⟩
    obtain ⟨d, h1, h2⟩ := res_bind h
    refine ⟨d, h1, ?_⟩
    cases d <;> first | (cases h2; done) | (cases h2; exact q)
  · rintro ⟨d, h, q⟩
    cases d <;> first | exact False.elim q | exact ⟨_, by rw [h]; rfl, q⟩
theorem ex2 {α β : Type} {A : α → Prop} {B : β → Prop} {C : α → β → Prop} : (∃ d e, A d ∧ B e ∧ C d e) = ∃ d, A d ∧ ∃ e, B e ∧ C d e :=
  propext ⟨fun ⟨d, e, a, b, c⟩ => ⟨d, a, e, b, c⟩, fun ⟨d, a, e, b, c⟩ => ⟨d, e, a, b, c⟩⟩
def isSc (d : D) : Prop := (scalar d).isSome = true
theorem isSc_n : isSc .non = True := eq_true rfl
theorem isSc_b {b : Bool} : isSc (.bl b) = True := eq_true rfl
theorem isSc_i {b : Int} : isSc (.int b) = True := eq_true rfl
theorem isSc_s {b : Str} : isSc (.str b) = True := eq_true rfl
def shS (env : En) (i : Nat) (f : D → En → Prop) : Sl → Prop
  | .sh d => f d env
  | .own d => st env i (.sh d) (f d)
  | .bor d => isSc d ∧ f d env
  | _ => False
theorem shS_sh {env : En} {i : Nat} {f : D → En → Prop} {d : D} : shS env i f (.sh d) = f d env := rfl
theorem shS_own {env : En} {i : Nat} {f : D → En → Prop} {d : D} : shS env i f (.own d) = st env i (.sh d) (f d) := rfl
theorem shS_bor {env : En} {i : Nat} {f : D → En → Prop} {d : D} : shS env i f (.bor d) = (isSc d ∧ f d env) := rfl
def sh1C (env : En) (y : Va) (f : D → En → Prop) : Prop := ∃ d env2, sh1 env y = some (d, env2) ∧ f d env2
theorem sh1_d {env : En} {d : D} {f : D → En → Prop} : sh1C env (.d d) f = f d env := propext ⟨fun ⟨_, _, h, q⟩ => (by cases h; exact q), fun q => ⟨_, _, rfl, q⟩⟩
theorem sh1_p {env : En} {i : Nat} {f : D → En → Prop} : sh1C env (.ptr i) f = lk env i (shS env i f) := by
  apply propext
  unfold sh1C sh1 lk
  dsimp only
  cases env[i]? with
  | none => exact ⟨fun ⟨_, _, h, _⟩ => (by cases h), fun h => False.elim h⟩
  | some s =>
    cases s with
    | no => exact ⟨fun ⟨_, _, h, _⟩ => (by cases h), fun h => False.elim h⟩
    | bag n => exact ⟨fun ⟨_, _, h, _⟩ => (by cases h), fun h => False.elim h⟩
    | sh d => exact ⟨fun ⟨_, _, h, q⟩ => (by cases h; exact q), fun q => ⟨_, _, rfl, q⟩⟩
    | own d => exact ⟨fun ⟨_, _, h, q⟩ => (by cases h; exact q), fun q => ⟨_, _, rfl, q⟩⟩
    | bor d =>
      dsimp only
      show _ ↔ isSc d ∧ f d env
      unfold isSc
      cases (scalar d).isSome with
      | true => exact ⟨fun ⟨_, _, h, q⟩ => (by cases h; exact ⟨rfl, q⟩), fun q => ⟨_, _, rfl, q.2⟩⟩
      | false => exact ⟨fun ⟨_, _, h, q⟩ => (by cases h), fun q => (by cases q.1)⟩
def shsC (ys : List Va) (env : En) (f : List D → En → Prop) : Prop := ∃ ds env2, shs ys env = some (ds, env2) ∧ f ds env2
theorem shs0 {env : En} {f : List D → En → Prop} : shsC [] env f = f [] env := propext ⟨fun ⟨_, _, h, q⟩ => (by cases h; exact q), fun q => ⟨_, _, rfl, q⟩⟩
theorem shs1 {y : Va} {ys : List Va} {env : En} {f : List D → En → Prop} : shsC (y :: ys) env f = sh1C env y fun d env2 => shsC ys env2 fun ds env3 => f (d :: ds) env3 := by
  apply propext
  constructor
  · rintro ⟨ds, e2, h, q⟩
    change (sh1 env y).bind _ = _ at h
    cases h1 : sh1 env y with
    | none => rw [h1] at h; cases h
    | some p =>
      obtain ⟨d, e1⟩ := p
      rw [h1] at h
      change (shs ys e1).map _ = _ at h
      cases h2 : shs ys e1 with
      | none => rw [h2] at h; cases h
      | some r =>
        obtain ⟨r1, r2⟩ := r
        rw [h2] at h
        cases h
        exact ⟨_, _, h1, _, _, h2, q⟩
  · rintro ⟨d, e1, h1, ds, e2, h2, q⟩
    refine ⟨d :: ds, e2, ?_, q⟩
    show (sh1 env y).bind _ = _
    rw [h1]
    show (shs ys e1).map _ = _
    rw [h2]; rfl
def ressC (env : En) (ys : List Va) (f : List D → Prop) : Prop := ∃ ds, ress env ys = some ds ∧ f ds
theorem ress0 {env : En} {f : List D → Prop} : ressC env [] f = f [] := propext ⟨fun ⟨_, h, q⟩ => (by cases h; exact q), fun q => ⟨_, rfl, q⟩⟩
theorem ress1 {env : En} {y : Va} {ys : List Va} {f : List D → Prop} : ressC env (y :: ys) f = rd env y fun d => ressC env ys fun ds => f (d :: ds) := by
  apply propext
  constructor
  · rintro ⟨ds, h, q⟩
    change (res env y).bind _ = _ at h
    cases h1 : res env y with
    | none => rw [h1] at h; cases h
    | some d =>
      rw [h1] at h
      change (ress env ys).map _ = _ at h
      cases h2 : ress env ys with
      | none => rw [h2] at h; cases h
      | some r => rw [h2] at h; cases h; exact ⟨d, h1, r, h2, q⟩
  · rintro ⟨d, h1, ds, h2, q⟩
    refine ⟨d :: ds, ?_, q⟩
    show (res env y).bind _ = _
    rw [h1]
    show (ress env ys).map _ = _
    rw [h2]; rfl
def bagS (env : En) (i m : Nat) (f : Ar → En → Prop) : Sl → Prop
  | .bag n => m ≤ n ∧ st env i (.bag (n - m)) (f (.bag m))
  | _ => False
theorem bagS_b {env : En} {i m n : Nat} {f : Ar → En → Prop} : bagS env i m f (.bag n) = (m ≤ n ∧ st env i (.bag (n - m)) (f (.bag m))) := rfl
def arg1C (env : En) (m : Md) (y : Va) (f : Ar → En → Prop) : Prop := ∃ a env2, arg1 env m y = some (a, env2) ∧ f a env2
theorem arg_bor {env : En} {y : Va} {f : Ar → En → Prop} : arg1C env .bor y f = rd env y fun d => f (.bor d) env := by
  apply propext
  constructor
  · rintro ⟨a, e2, h, q⟩
    change (res env y).map _ = _ at h
    cases h1 : res env y with
    | none => rw [h1] at h; cases h
    | some d => rw [h1] at h; cases h; exact ⟨d, h1, q⟩
  · rintro ⟨d, h1, q⟩
    exact ⟨_, _, by show (res env y).map _ = _; rw [h1]; rfl, q⟩
theorem arg_sh {env : En} {y : Va} {f : Ar → En → Prop} : arg1C env .sh y f = sh1C env y fun d e => f (.sh d) e := by
  apply propext
  constructor
  · rintro ⟨a, e2, h, q⟩
    change (sh1 env y).map _ = _ at h
    cases h1 : sh1 env y with
    | none => rw [h1] at h; cases h
    | some d => rw [h1] at h; cases h; exact ⟨d.1, d.2, h1, q⟩
  · rintro ⟨d, e, h1, q⟩
    exact ⟨_, _, by show (sh1 env y).map _ = _; rw [h1]; rfl, q⟩
theorem arg_bag {env : En} {m i : Nat} {f : Ar → En → Prop} : arg1C env (.bag m) (.bag i) f = lk env i (bagS env i m f) := by
  apply propext
  unfold arg1C arg1 lk
  dsimp only
  cases env[i]? with
  | none => exact ⟨fun ⟨_, _, h, _⟩ => (by cases h), fun h => False.elim h⟩
  | some s =>
    cases s with
    | bag n =>
      show (∃ a env2, (if m ≤ n then some (Ar.bag m, env.set i (.bag (n - m))) else none) = some (a, env2) ∧ f a env2) ↔ m ≤ n ∧ f (.bag m) (env.set i (.bag (n - m)))
      by_cases h : m ≤ n
      · rw [if_pos h]
        exact ⟨fun ⟨_, _, e, q⟩ => (by cases e; exact ⟨h, q⟩), fun q => ⟨_, _, rfl, q.2⟩⟩
      · rw [if_neg h]
        exact ⟨fun ⟨_, _, e, q⟩ => (by cases e), fun q => (h q.1).elim⟩
    | _ => exact ⟨fun ⟨_, _, h, _⟩ => (by cases h), fun h => False.elim h⟩
def argsC (ms : List Md) (ys : List Va) (env : En) (f : List Ar → En → Prop) : Prop := ∃ as env2, args ms ys env = some (as, env2) ∧ f as env2
theorem args0 {env : En} {f : List Ar → En → Prop} : argsC [] [] env f = f [] env := propext ⟨fun ⟨_, _, h, q⟩ => (by cases h; exact q), fun q => ⟨_, _, rfl, q⟩⟩
theorem args1 {m : Md} {ms : List Md} {y : Va} {ys : List Va} {env : En} {f : List Ar → En → Prop} : argsC (m :: ms) (y :: ys) env f = arg1C env m y fun d env2 => argsC ms ys env2 fun ds env3 => f (d :: ds) env3 := by
  apply propext
  constructor
  · rintro ⟨ds, e2, h, q⟩
    change (arg1 env m y).bind _ = _ at h
    cases h1 : arg1 env m y with
    | none => rw [h1] at h; cases h
    | some p =>
      obtain ⟨d, e1⟩ := p
      rw [h1] at h
      change (args ms ys e1).map _ = _ at h
      cases h2 : args ms ys e1 with
      | none => rw [h2] at h; cases h
      | some r =>
        obtain ⟨r1, r2⟩ := r
        rw [h2] at h
        cases h
        exact ⟨_, _, h1, _, _, h2, q⟩
  · rintro ⟨d, e1, h1, ds, e2, h2, q⟩
    refine ⟨d :: ds, e2, ?_, q⟩
    show (arg1 env m y).bind _ = _
    rw [h1]
    show (args ms ys e1).map _ = _
    rw [h2]; rfl
def apC (as : List Ar) (ds : List D) (f : List Ar → Prop) : Prop := f (as ++ ds.map .bor)
theorem ap0 {f : List Ar → Prop} : apC [] [] f = f [] := rfl
theorem ap0' {d : D} {ds : List D} {f : List Ar → Prop} : apC [] (d :: ds) f = apC [] ds fun r => f (.bor d :: r) := rfl
theorem ap1 {a : Ar} {as : List Ar} {ds : List D} {f : List Ar → Prop} : apC (a :: as) ds f = apC as ds fun r => f (a :: r) := rfl
def reS (f : Rv → Prop) : Sl → Prop
  | .sh d => f (.sh d)
  | .own d => f (.own d)
  | .bor d => isSc d ∧ f (.sh d)
  | _ => False
theorem reS_sh {f : Rv → Prop} {d : D} : reS f (.sh d) = f (.sh d) := rfl
theorem reS_own {f : Rv → Prop} {d : D} : reS f (.own d) = f (.own d) := rfl
theorem reS_bor {f : Rv → Prop} {d : D} : reS f (.bor d) = (isSc d ∧ f (.sh d)) := rfl
def retC (env : En) (y : Va) (f : Rv → Prop) : Prop := ∃ r, retV env y = some r ∧ f r
theorem ret_d {env : En} {d : D} {f : Rv → Prop} : retC env (.d d) f = f (.sh d) := propext ⟨fun ⟨_, h, q⟩ => (by cases h; exact q), fun q => ⟨_, rfl, q⟩⟩
theorem ret_p {env : En} {i : Nat} {f : Rv → Prop} : retC env (.ptr i) f = lk env i (reS f) := by
  apply propext
  unfold retC retV lk
  dsimp only
  cases env[i]? with
  | none => exact ⟨fun ⟨_, h, _⟩ => (by cases h), fun h => False.elim h⟩
  | some s =>
    cases s with
    | no => exact ⟨fun ⟨_, h, _⟩ => (by cases h), fun h => False.elim h⟩
    | bag n => exact ⟨fun ⟨_, h, _⟩ => (by cases h), fun h => False.elim h⟩
    | sh d => exact ⟨fun ⟨_, h, q⟩ => (by cases h; exact q), fun q => ⟨_, rfl, q⟩⟩
    | own d => exact ⟨fun ⟨_, h, q⟩ => (by cases h; exact q), fun q => ⟨_, rfl, q⟩⟩
    | bor d =>
      dsimp only
      show _ ↔ isSc d ∧ f (.sh d)
      unfold isSc
      cases (scalar d).isSome with
      | true => exact ⟨fun ⟨_, h, q⟩ => (by cases h; exact ⟨rfl, q⟩), fun q => ⟨_, rfl, q.2⟩⟩
      | false => exact ⟨fun ⟨_, h, q⟩ => (by cases h), fun q => (by cases q.1)⟩
def asS (env : En) (i : Nat) (f : Sl → En → Prop) : Sl → Prop
  | .sh d => f (.sh d) env
  | .own d => st env i (.sh d) (f (.sh d))
  | .bor d => f (.bor d) env
  | _ => False
theorem asS_sh {env : En} {i : Nat} {f : Sl → En → Prop} {d : D} : asS env i f (.sh d) = f (.sh d) env := rfl
theorem asS_own {env : En} {i : Nat} {f : Sl → En → Prop} {d : D} : asS env i f (.own d) = st env i (.sh d) (f (.sh d)) := rfl
theorem asS_bor {env : En} {i : Nat} {f : Sl → En → Prop} {d : D} : asS env i f (.bor d) = f (.bor d) env := rfl
def asC (env : En) (y : Va) (f : Sl → En → Prop) : Prop := ∃ s env2, asV env y = some (s, env2) ∧ f s env2
theorem as_d {env : En} {d : D} {f : Sl → En → Prop} : asC env (.d d) f = f (.sh d) env := propext ⟨fun ⟨_, _, h, q⟩ => (by cases h; exact q), fun q => ⟨_, _, rfl, q⟩⟩
theorem as_p {env : En} {i : Nat} {f : Sl → En → Prop} : asC env (.ptr i) f = lk env i (asS env i f) := by
  apply propext
  unfold asC asV lk
  dsimp only
  cases env[i]? with
  | none => exact ⟨fun ⟨_, _, h, _⟩ => (by cases h), fun h => False.elim h⟩
  | some s => cases s <;> first | exact ⟨fun ⟨_, _, h, _⟩ => (by cases h), fun h => False.elim h⟩ | exact ⟨fun ⟨_, _, h, q⟩ => (by cases h; exact q), fun q => ⟨_, _, rfl, q⟩⟩
def rvC (r : Rv) (f : Sl → Prop) : Prop := f (rvSl r)
theorem rv_sh {d : D} {f : Sl → Prop} : rvC (.sh d) f = f (.sh d) := rfl
theorem rv_own {d : D} {f : Sl → Prop} : rvC (.own d) f = f (.own d) := rfl
def daC (r : Rv) (f : D → Prop) : Prop := f r.dat
theorem da_sh {d : D} {f : D → Prop} : daC (.sh d) f = f d := rfl
theorem da_own {d : D} {f : D → Prop} : daC (.own d) f = f d := rfl
def itS (env : En) (i : Nat) (f : List D → En → Prop) : Sl → Prop
  | .sh d => dIt (fun ds => f ds env) d
  | .own d => dIt (fun ds => st env i (.sh d) (f ds)) d
  | .bor d => dIt (fun ds => f ds env) d
  | _ => False
theorem itS_sh {env : En} {i : Nat} {f : List D → En → Prop} {d : D} : itS env i f (.sh d) = dIt (fun ds => f ds env) d := rfl
theorem itS_own {env : En} {i : Nat} {f : List D → En → Prop} {d : D} : itS env i f (.own d) = dIt (fun ds => st env i (.sh d) (f ds)) d := rfl
theorem itS_bor {env : En} {i : Nat} {f : List D → En → Prop} {d : D} : itS env i f (.bor d) = dIt (fun ds => f ds env) d := rfl
def itC (env : En) (y : Va) (f : List D → En → Prop) : Prop := ∃ items env2, itemsV env y = some (items, env2) ∧ f items env2
theorem it_aux {d : D} {e : En} {f : List D → En → Prop} : (∃ items env2, (dItems d).map (fun ds => (ds, e)) = some (items, env2) ∧ f items env2) ↔ dIt (fun ds => f ds e) d := by
  cases d <;> first | exact ⟨fun ⟨_, _, h, q⟩ => (by cases h; exact q), fun q => ⟨_, _, rfl, q⟩⟩ | exact ⟨fun ⟨_, _, h, _⟩ => (by cases h), fun h => False.elim h⟩
theorem it_d {env : En} {d : D} {f : List D → En → Prop} : itC env (.d d) f = dIt (fun ds => f ds env) d := propext it_aux
theorem it_p {env : En} {i : Nat} {f : List D → En → Prop} : itC env (.ptr i) f = lk env i (itS env i f) := by
  apply propext
  unfold itC itemsV lk
  dsimp only
  cases env[i]? with
  | none => exact ⟨fun ⟨_, _, h, _⟩ => (by cases h), fun h => False.elim h⟩
  | some s => cases s <;> first | exact ⟨fun ⟨_, _, h, _⟩ => (by cases h), fun h => False.elim h⟩ | exact it_aux
end Q
set_option Elab.async false
set_option linter.all false
set_option maxRecDepth 100000
set_option maxHeartbeats 2000000
set_option autoImplicit false
namespace Q
open PySem PySem.Spec PyProof.Rows L2
section
variable {env : En} {k : Va → En → Prop} {kn : Rv → En → Prop} {kt : Bool → En → Prop} {ka : List Va → En → Prop} {x : XQ} {q qa qb qc : TEq} {qn : TNq} {qt qu : TTq} {ql : TAq} {i : Nat} {DQ : Ens} {s r : TSq}
theorem e_var : qVar i env k x = lk env i (qSlot i env k) := rfl
theorem e_sh {d : D} : qSlot i env k (.sh d) = k (.d d) env := rfl
theorem e_own {d : D} : qSlot i env k (.own d) = k (.ptr i) env := rfl
theorem e_bor {d : D} : qSlot i env k (.bor d) = k (.ptr i) env := rfl
theorem e_bag {n : Nat} : qSlot i env k (.bag n) = k (.bag i) env := rfl
theorem e_c {d : D} : qC d env k x = k (.d d) env := rfl
theorem e_op {f : D → D → (D → Prop) → Prop} : qOp f qa qb env k x = qa env (fun y env1 => qb env1 (fun z env2 => rd env2 y fun d => rd env2 z fun e => f d e (hold (fun w => k (.d w) env2) .mk)) x) x := by
  unfold qOp rd; simp only [ex2]; rfl
theorem e_opR {f : D → D → (Rv → Prop) → Prop} : qOpR f qa qb env kn x = qa env (fun y env1 => qb env1 (fun z env2 => rd env2 y fun d => rd env2 z fun e => f d e (hold (fun w => kn w env2) .mk)) x) x := by
  unfold qOpR rd; simp only [ex2]; rfl
theorem e_test : qTest q env kt x = q env (fun y env1 => rd env1 y (dB (hold (fun c => kt c env1) .mk))) x := by
  unfold qTest; simp only [rd_B]; rfl
theorem e_and : qAnd qt qu env kt x = qt env (fun c env1 => cIf c (hold (fun _ => qu env1 kt x) .mk) (hold (fun _ => kt false env1) .mk)) x := rfl
theorem e_or : qOr qt qu env kt x = qt env (fun c env1 => cIf c (hold (fun _ => kt true env1) .mk) (hold (fun _ => qu env1 kt x) .mk)) x := rfl
theorem e_not : qNot qt env kt x = qt env (fun c env1 => kt (!c) env1) x := rfl
theorem e_andV : qAndV qa qb env k x = qa env (fun y env1 => rd env1 y (dB fun c => cIf c (hold (fun _ => qb env1 k x) .mk) (hold (fun _ => k (.d (.bl false)) env1) .mk))) x := by
  unfold qAndV; simp only [rd_B]; rfl
theorem e_orV : qOrV qa qb env k x = qa env (fun y env1 => rd env1 y (dB fun c => cIf c (hold (fun _ => k (.d (.bl true)) env1) .mk) (hold (fun _ => qb env1 k x) .mk))) x := by
  unfold qOrV; simp only [rd_B]; rfl
theorem e_notV : qNotV qa env k x = qa env (fun y env1 => rd env1 y (dB fun c => k (.d (.bl (!c))) env1)) x := by
  unfold qNotV; simp only [rd_B]
theorem e_ifE : qIfE qt qa qb env k x = qt env (fun c env1 => cIf c (hold (fun _ => qa env1 k x) .mk) (hold (fun _ => qb env1 k x) .mk)) x := rfl
theorem e_nil : qNil env ka x = ka [] env := rfl
theorem e_cons : qCons qa ql env ka x = qa env (fun y env1 => ql env1 (fun ys env2 => ka (y :: ys) env2) x) x := rfl
theorem e_cb {f : List D → (D → Prop) → Prop} : qCB f ql env k x = ql env (fun ys env1 => ressC env1 ys fun ds => f ds (hold (fun w => k (.d w) env1) .mk)) x := rfl
theorem e_cbR {f : List D → (Rv → Prop) → Prop} : qCBR f ql env kn x = ql env (fun ys env1 => ressC env1 ys fun ds => f ds (hold (fun w => kn w env1) .mk)) x := rfl
theorem e_ofN : qOfN qn env k x = qn env (fun r env1 => daC r fun d => k (.d d) env1) x := rfl
theorem e_lst : qLst ql env kn x = ql env (fun ys env1 => shsC ys env1 fun ds env2 => ds.length < 10000000 ∧ kn (.own (.lst ds)) env2) x := rfl
theorem e_tup : qTup ql env k x = ql env (fun ys env1 => shsC ys env1 fun ds env2 => ds.length < 10000000 ∧ k (.d (.tup ds)) env2) x := rfl
theorem e_call {ms : List Md} {dds : List D} {sp : Spq} : qCall ms dds sp ql env kn x = ql env (fun ys env1 => argsC ms ys env1 fun as env2 => apC as dds fun as' => sp as' (hold (fun r => kn r env2) .mk) fun _ _ => False) x := rfl
theorem e_callS {ms : List Md} {sp : Spq} : qCallS ms sp ql env kn x = ql env (fun ys env1 => argsC ms ys env1 fun as env2 => sp as (hold (fun r => kn r env2) .mk) (hold (fun nm pay => x nm pay env2) .mk)) x := rfl
theorem e_next : qNext DQ env = DQ.nx env := rfl
theorem e_seq : qSeq s r DQ env = s { DQ with nx := r DQ } env := rfl
theorem e_drop : qDrop q DQ env = q env (fun _ env1 => DQ.nx env1) DQ.ex := rfl
theorem e_ret : qRet q DQ env = q env (fun y env1 => retC env1 y fun r => DQ.rt r env1) DQ.ex := rfl
theorem e_retN : qRetN qn DQ env = qn env DQ.rt DQ.ex := rfl
theorem e_if : qIf qt s r DQ env = qt env (fun c env1 => cIf c (hold (fun _ => s DQ env1) .mk) (hold (fun _ => r DQ env1) .mk)) DQ.ex := rfl
theorem e_set : qSet i q DQ env = q env (fun y env1 => asC env1 y fun s env2 => st env2 i s DQ.nx) DQ.ex := rfl
theorem e_setN : qSetN i qn DQ env = qn env (fun r env1 => rvC r fun s => st env1 i s DQ.nx) DQ.ex := rfl
theorem e_raise {nm : Str} : qRaise nm DQ env = DQ.ex nm [] env := rfl
theorem e_name {d : D} {f : En → Prop} : qName i d env f = st env i (.sh d) f := rfl
theorem e_gnil {f : En → Prop} : qgNil [] env f = f env := propext ⟨fun h => h.2, fun h => ⟨rfl, h⟩⟩
theorem e_gcons {t : TGq} {u : TGsq} {d : D} {ds : List D} {f : En → Prop} : qgCons t u (d :: ds) env f = t d env fun env1 => u ds env1 f := propext ⟨fun ⟨_, _, h, q⟩ => by cases h; exact q, fun q => ⟨_, _, rfl, q⟩⟩
theorem e_gtup {n : Nat} {t : TGsq} {ds : List D} {f : En → Prop} : qgTup n t (.tup ds) env f = (ds.length = n ∧ t ds env f) := propext ⟨fun ⟨_, h, q⟩ => by cases h; exact q, fun q => ⟨_, rfl, q⟩⟩
theorem e_for {qi : TIq} {g : TGq} : qFor qi g s DQ env = qi env (fun items env1 => loopQ g s DQ items env1) DQ.ex := rfl
theorem e_seqI {ki : List D → En → Prop} : qSeqI q env ki x = q env (fun y env1 => itC env1 y ki) x := rfl
theorem e_enum {ki : List D → En → Prop} : qEnum q env ki x = q env (fun y env1 => itC env1 y fun items env2 => ki (numbered 0 items) env2) x := rfl
def rg1 (f : Int → Prop) : List D → Prop
  | [.int j] => f j
  | _ => False
theorem rg1_i {f : Int → Prop} {j : Int} : rg1 f [.int j] = f j := rfl
def rg2 (f : Int → Int → Prop) : List D → Prop
  | [.int i, .int j] => f i j
  | _ => False
theorem rg2_i {f : Int → Int → Prop} {i j : Int} : rg2 f [.int i, .int j] = f i j := rfl
theorem e_rng1 {ki : List D → En → Prop} : qRng1 ql env ki x = ql env (fun ys env1 => ressC env1 ys (rg1 fun j => -4000000000000000000 ≤ j ∧ j < 4000000000000000000 ∧ ki (ranged 0 j.toNat) env1)) x := by
  unfold qRng1 ressC
  congr
  funext ys env1
  apply propext
  constructor
  · rintro ⟨j, h, q⟩; exact ⟨_, h, q⟩
  · rintro ⟨ds, h, q⟩
    unfold rg1 at q
    split at q
    · exact ⟨_, h, q⟩
    · exact q.elim
theorem e_rng2 {ki : List D → En → Prop} : qRng2 ql env ki x = ql env (fun ys env1 => ressC env1 ys (rg2 fun i j => (-4000000000000000000 ≤ i ∧ i < 4000000000000000000 ∧ -4000000000000000000 ≤ j ∧ j < 4000000000000000000) ∧ ki (ranged i (j - i).toNat) env1)) x := by
  unfold qRng2 ressC
  congr
  funext ys env1
  apply propext
  constructor
  · rintro ⟨i, j, h, q⟩; exact ⟨_, h, q⟩
  · rintro ⟨ds, h, q⟩
    unfold rg2 at q
    split at q
    · exact ⟨_, _, h, q⟩
    · exact q.elim
theorem e_lc {qi : TIq} {g : TGq} {vs : List Nat} : qLc qi g qt q vs env kn x = qi env (fun items env1 => wp env1 vs fun env2 => compQ g qt q vs items [] env2 (hold (fun acc env3 => kn (.own (.lst acc)) env3) .mk)) x := rfl
theorem e_yes : qYes env kt x = kt true env := rfl
theorem e_onone {ko : Option Int → En → Prop} : qoNone env ko x = ko none env := rfl
theorem e_osome {ko : Option Int → En → Prop} : qoSome q env ko x = q env (fun y env1 => rd env1 y (dI fun i => ko (some i) env1)) x := by
  unfold qoSome; simp only [rd_I]
theorem e_sl {f : D → Option Int → Option Int → (Rv → Prop) → Prop} {qlo qhi : TOq} : qSl f q qlo qhi env kn x = q env (fun y env1 => qlo env1 (fun lo env2 => qhi env2 (fun hi env3 => rd env3 y fun d => f d lo hi (hold (fun r => kn r env3) .mk)) x) x) x := rfl
theorem e_isi {T : String} : qIsi T q env k x = q env (fun y env1 => rd env1 y fun d => k (.d (.bl (isTy T d))) env1) x := rfl
theorem e_isi2 {T U : String} : qIsi2 T U q env k x = q env (fun y env1 => rd env1 y fun d => k (.d (.bl (isTy T d || isTy U d))) env1) x := rfl
def ownL : Sl → Prop
  | .own (.lst _) => True
  | _ => False
theorem ownL_l {ds : List D} : ownL (.own (.lst ds)) = True := rfl
def ownA : Sl → Prop
  | .own _ => True
  | _ => False
theorem ownA_l {d : D} : ownA (.own d) = True := rfl
def sO (f : D → Prop) : Sl → Prop
  | .own d => f d
  | _ => False
theorem sO_o {f : D → Prop} {d : D} : sO f (.own d) = f d := rfl
theorem lk_O {env : En} {i : Nat} {f : D → Prop} : (∃ d, env[i]? = some (.own d) ∧ f d) = lk env i (sO f) := by
  apply propext
  unfold lk
  cases env[i]? with
  | none => exact ⟨fun ⟨_, h, _⟩ => (by cases h), fun h => False.elim h⟩
  | some s => cases s <;> first | exact ⟨fun ⟨_, h, q⟩ => (by cases h; exact q), fun q => ⟨_, rfl, q⟩⟩ | exact ⟨fun ⟨_, h, _⟩ => (by cases h), fun h => False.elim h⟩
theorem lk_L {env : En} {i : Nat} : (∃ d, env[i]? = some (.own d) ∧ isL d = true) = lk env i ownL := by
  apply propext
  unfold lk
  cases env[i]? with
  | none => exact ⟨fun ⟨_, h, _⟩ => (by cases h), fun h => False.elim h⟩
  | some s =>
    cases s with
    | own d => cases d <;> first | exact ⟨fun ⟨_, h, q⟩ => (by cases h; cases q; done), fun q => False.elim q⟩ | exact ⟨fun _ => trivial, fun _ => ⟨_, rfl, rfl⟩⟩
    | _ => exact ⟨fun ⟨_, h, _⟩ => (by cases h), fun h => False.elim h⟩
theorem lk_A {env : En} {i : Nat} : (∃ d, env[i]? = some (.own d)) = lk env i ownA := by
  apply propext
  unfold lk
  cases env[i]? with
  | none => exact ⟨fun ⟨_, h⟩ => (by cases h), fun h => False.elim h⟩
  | some s => cases s <;> first | exact ⟨fun ⟨_, h⟩ => (by cases h; done), fun h => False.elim h⟩ | exact ⟨fun _ => trivial, fun _ => ⟨_, rfl⟩⟩
theorem e_meth {f : D → List D → (D → D → Prop) → Prop} : qMeth f i ql env k x = (lk env i ownL ∧ ql env (fun ys env1 => shsC ys env1 fun ds env2 => lk env2 i (sO fun d => f d ds (hold (fun z d' => st env2 i (.own d') (k (.d z))) .mk))) x) := by
  unfold qMeth shsC
  simp only [lk_L, ← lk_O]
  apply propext
  apply and_congr_right
  intro _
  apply iff_of_eq
  congr
  funext ys env1
  apply propext
  constructor
  · rintro ⟨ds, e2, d, h1, h2, q⟩; exact ⟨ds, e2, h1, d, h2, q⟩
  · rintro ⟨ds, e2, h1, d, h2, q⟩; exact ⟨ds, e2, d, h1, h2, q⟩
theorem e_dnew : qDNew env kn x = kn (.own (.dct [])) env := rfl
theorem e_dput : qDPut i qa q DQ env = q env (fun w env1 => lk env1 i ownA ∧ qa env1 (fun z env2 => sh1C env2 w fun e env3 => rd env3 z (dK fun key => lk env3 i (sO (dX fun kvs => kvs.length < 10000000 ∧ st env3 i (.own (.dct (pD kvs key e))) DQ.nx)))) DQ.ex) DQ.ex := by
  unfold qDPut sh1C
  congr
  funext w env1
  rw [lk_A]
  congr
  funext z env2
  apply propext
  constructor
  · rintro ⟨e, env3, kvs, key, h1, h2, h3, q⟩
    refine ⟨e, env3, h1, ?_⟩
    dsimp only
    rw [← rd_K]
    refine ⟨key, h2, ?_⟩
    rw [← lk_O]
    exact ⟨_, h3, q⟩
  · rintro ⟨e, env3, h1, h⟩
    rw [← rd_K] at h
    obtain ⟨key, h2, h⟩ := h
    rw [← lk_O] at h
    obtain ⟨d, h3, q⟩ := h
    cases d <;> first | exact False.elim q | exact ⟨e, env3, _, key, h1, h2, h3, q⟩
theorem e_lput : qLPut i qa q DQ env = q env (fun w env1 => lk env1 i ownA ∧ qa env1 (fun z env2 => sh1C env2 w fun e env3 => rd env3 z (dI fun m => lk env3 i (sO (dL fun ds => ∃ j, ixN ds.length m = some j ∧ st env3 i (.own (.lst (ds.set j e))) DQ.nx)))) DQ.ex) DQ.ex := by
  unfold qLPut sh1C
  congr
  funext w env1
  rw [lk_A]
  congr
  funext z env2
  apply propext
  constructor
  · rintro ⟨e, env3, ds, m, j, h1, h2, h3, h4, q⟩
    refine ⟨e, env3, h1, ?_⟩
    dsimp only
    rw [← rd_I]
    refine ⟨m, h2, ?_⟩
    rw [← lk_O]
    exact ⟨_, h3, j, h4, q⟩
  · rintro ⟨e, env3, h1, h⟩
    rw [← rd_I] at h
    obtain ⟨m, h2, h⟩ := h
    rw [← lk_O] at h
    obtain ⟨d, h3, q⟩ := h
    cases d <;> first | exact False.elim q | (obtain ⟨j, h4, q⟩ := q; exact ⟨e, env3, _, m, j, h1, h2, h3, h4, q⟩)
end
end Q
set_option Elab.async false
set_option linter.all false
set_option maxRecDepth 100000
set_option maxHeartbeats 2000000
set_option autoImplicit false
namespace Q
open PySem PySem.Spec PyProof.Rows L2
section
variable {k : D → Prop} {kn : Rv → Prop} {i j : Int} {a b : List D}
theorem f_sub : fSub (.int i) (.int j) k = k (.int (i - j)) := propext ⟨fun h => h.2, fun h => ⟨trivial, h⟩⟩
theorem f_mod : fMod (.int i) (.int j) k = (0 < j ∧ k (.int (i % j))) := rfl
theorem f_div : fDiv (.int i) (.int j) k = ((0 < j ∧ j < 1073741824) ∧ k (.int (i / j))) := rfl
theorem f_divW : fDivW (.int i) (.int j) k = ((0 < j ∧ j.natAbs.log2 < 9000) ∧ k (.int (i / j))) := rfl
theorem f_pow : fPow (.int i) (.int j) k = (CPow i j ∧ k (.int (i ^ j.toNat))) := rfl
theorem f_lt : fLt (.int i) (.int j) k = k (.bl (decide (i < j))) := propext ⟨fun h => h.2, fun h => ⟨trivial, h⟩⟩
theorem f_le : fLe (.int i) (.int j) k = k (.bl (decide (i ≤ j))) := propext ⟨fun h => h.2, fun h => ⟨trivial, h⟩⟩
theorem f_gt : fGt (.int i) (.int j) k = k (.bl (decide (j < i))) := propext ⟨fun h => h.2, fun h => ⟨trivial, h⟩⟩
theorem f_ge : fGe (.int i) (.int j) k = k (.bl (decide (j ≤ i))) := propext ⟨fun h => h.2, fun h => ⟨trivial, h⟩⟩
theorem f_addI : fAdd (.int i) (.int j) kn = kn (.sh (.int (i + j))) := rfl
theorem f_addS {x y : Str} : fAdd (.str x) (.str y) kn = (x.length + y.length ≤ 10000000 ∧ kn (.sh (.str (x ++ y)))) := rfl
theorem f_addL : fAdd (.lst a) (.lst b) kn = (a.length + b.length < 10000000 ∧ kn (.own (.lst (a ++ b)))) := rfl
theorem f_mulI : fMul (.int i) (.int j) kn = ((CMul i j ∨ CMulW i j) ∧ kn (.sh (.int (i * j)))) := rfl
theorem f_mulL : fMul (.lst a) (.int j) kn = (-1000000000 ≤ j ∧ j ≤ 1000000000 ∧ a.length * j.toNat ≤ 10000000 ∧ kn (.own (.lst (List.replicate j.toNat a).flatten))) := rfl
theorem f_ixL : fIx (.lst a) (.int i) k = ∃ d, atI a i = some d ∧ k d := rfl
theorem f_ixT : fIx (.tup a) (.int i) k = ∃ d, atI a i = some d ∧ k d := rfl
theorem f_eqI : fEq (.int i) (.int j) k = k (.bl (decide (i = j))) := rfl
theorem f_neI : fNe (.int i) (.int j) k = k (.bl (!decide (i = j))) := rfl
theorem f_eqS {x y : Str} : fEq (.str x) (.str y) k = k (.bl (decide (x = y))) := rfl
theorem f_neS {x y : Str} : fNe (.str x) (.str y) k = k (.bl (!decide (x = y))) := rfl
theorem f_eqB {x y : Bool} : fEq (.bl x) (.bl y) k = k (.bl (decide (x = y))) := rfl
theorem f_neB {x y : Bool} : fNe (.bl x) (.bl y) k = k (.bl (!decide (x = y))) := rfl
theorem f_isN {d : D} : fIs d .non k = k (.bl (isNon d)) := propext ⟨fun h => h.2, fun h => ⟨rfl, h⟩⟩
theorem f_isNotN {d : D} : fIsNot d .non k = k (.bl (!isNon d)) := propext ⟨fun h => h.2, fun h => ⟨rfl, h⟩⟩
theorem n_n : isNon .non = true := rfl
theorem n_b {b : Bool} : isNon (.bl b) = false := rfl
theorem n_i : isNon (.int i) = false := rfl
theorem n_s {x : Str} : isNon (.str x) = false := rfl
theorem n_l : isNon (.lst a) = false := rfl
theorem n_t : isNon (.tup a) = false := rfl
theorem ex_some {α : Type} {n : α} {P : α → Prop} : (∃ m, some n = some m ∧ P m) = P n := propext ⟨fun ⟨_, h, q⟩ => (by cases h; exact q), fun q => ⟨_, rfl, q⟩⟩
theorem f_lenL : fLen [.lst a] k = k (.int (a.length : Nat)) := ex_some
theorem f_lenT : fLen [.tup a] k = k (.int (a.length : Nat)) := ex_some
theorem f_lenR {ns : List Int} : fLen [.scr ns] k = k (.int (ns.length : Nat)) := ex_some
theorem f_lenS {x : Str} : fLen [.str x] k = (x.length ≤ 10000000 ∧ k (.int (x.length : Nat))) := by
  apply propext
  show (∃ n, (if x.length ≤ 10000000 then some x.length else none) = some n ∧ k (.int (n : Nat))) ↔ _
  by_cases h : x.length ≤ 10000000
  · rw [if_pos h]
    exact ⟨fun ⟨_, e, q⟩ => (by cases e; exact ⟨h, q⟩), fun q => ⟨_, rfl, q.2⟩⟩
  · rw [if_neg h]
    exact ⟨fun ⟨_, e, _⟩ => (by cases e), fun q => (h q.1).elim⟩
theorem f_min : fMin [.int i, .int j] k = k (.int (if j < i then j else i)) := rfl
theorem f_max : fMax [.int i, .int j] k = k (.int (if j > i then j else i)) := rfl
theorem f_abs : fAbs [.int i] k = k (.int (if i < 0 then -i else i)) := rfl
theorem f_intI : fInt [.int i] k = k (.int i) := rfl
theorem f_intB {b : Bool} : fInt [.bl b] k = k (.int (if b then 1 else 0)) := rfl
theorem f_listL : fList [.lst a] kn = kn (.own (.lst a)) := rfl
theorem f_listT : fList [.tup a] kn = kn (.own (.lst a)) := rfl
theorem f_listS {ns : List Int} : fList [.scr ns] kn = kn (.own (.lst (ns.map .int))) := rfl
theorem f_tupL : fTuple [.lst a] kn = kn (.sh (.tup a)) := rfl
theorem f_slL {lo hi : Option Int} : fSl (.lst a) lo hi kn = kn (.own (.lst (cut a lo hi))) := rfl
theorem f_slR {ns : List Int} {lo hi : Option Int} : fSl (.scr ns) lo hi kn = kn (.own (.lst ((cut ns lo hi).map .int))) := rfl
theorem f_slT {lo hi : Option Int} : fSl (.tup a) lo hi kn = (¬ (HT.sIx a.length 0 lo = 0 ∧ HT.sIx a.length a.length hi = a.length) ∧ kn (.sh (.tup (cut a lo hi)))) := rfl
variable {km : D → D → Prop}
theorem f_app {e : D} : fAppend (.lst a) [e] km = (a.length < 10000000 ∧ km .non (.lst (a ++ [e]))) := rfl
theorem f_ext : fExtend (.lst a) [.lst b] km = (a.length + b.length < 10000000 ∧ km .non (.lst (a ++ b))) := rfl
theorem y_n : tyN .non = "NoneType" := rfl
theorem y_b {b : Bool} : tyN (.bl b) = "bool" := rfl
theorem y_i : tyN (.int i) = "int" := rfl
theorem y_s {x : Str} : tyN (.str x) = "str" := rfl
theorem y_l : tyN (.lst a) = "list" := rfl
theorem y_t : tyN (.tup a) = "tuple" := rfl
theorem y_r {ns : List Int} : tyN (.scr ns) = "list" := rfl
theorem y_d {kvs : List (Key × D)} : tyN (.dct kvs) = "dict" := rfl
end
section
variable {b : Bool} {i : Int} {x : Str} {a : List D} {ns : List Int} {kvs : List (Key × D)}
theorem ty_int_n : isTy "int" .non = false := by unfold isTy; simp only [y_n, y_b, y_i, y_s, y_l, y_t, y_r, y_d]; decide
theorem ty_int_b : isTy "int" (.bl b) = true := by unfold isTy; simp only [y_n, y_b, y_i, y_s, y_l, y_t, y_r, y_d]; decide
theorem ty_int_i : isTy "int" (.int i) = true := by unfold isTy; simp only [y_n, y_b, y_i, y_s, y_l, y_t, y_r, y_d]; decide
theorem ty_int_s : isTy "int" (.str x) = false := by unfold isTy; simp only [y_n, y_b, y_i, y_s, y_l, y_t, y_r, y_d]; decide
theorem ty_int_l : isTy "int" (.lst a) = false := by unfold isTy; simp only [y_n, y_b, y_i, y_s, y_l, y_t, y_r, y_d]; decide
theorem ty_int_t : isTy "int" (.tup a) = false := by unfold isTy; simp only [y_n, y_b, y_i, y_s, y_l, y_t, y_r, y_d]; decide
theorem ty_int_r : isTy "int" (.scr ns) = false := by unfold isTy; simp only [y_n, y_b, y_i, y_s, y_l, y_t, y_r, y_d]; decide
theorem ty_int_d : isTy "int" (.dct kvs) = false := by unfold isTy; simp only [y_n, y_b, y_i, y_s, y_l, y_t, y_r, y_d]; decide
theorem ty_int_e {nm : Str} : isTy "int" (.exc nm) = false := by simp [isTy, tyN]
theorem ty_bool_n : isTy "bool" .non = false := by unfold isTy; simp only [y_n, y_b, y_i, y_s, y_l, y_t, y_r, y_d]; decide
theorem ty_bool_b : isTy "bool" (.bl b) = true := by unfold isTy; simp only [y_n, y_b, y_i, y_s, y_l, y_t, y_r, y_d]; decide
theorem ty_bool_i : isTy "bool" (.int i) = false := by unfold isTy; simp only [y_n, y_b, y_i, y_s, y_l, y_t, y_r, y_d]; decide
theorem ty_bool_s : isTy "bool" (.str x) = false := by unfold isTy; simp only [y_n, y_b, y_i, y_s, y_l, y_t, y_r, y_d]; decide
theorem ty_bool_l : isTy "bool" (.lst a) = false := by unfold isTy; simp only [y_n, y_b, y_i, y_s, y_l, y_t, y_r, y_d]; decide
theorem ty_bool_t : isTy "bool" (.tup a) = false := by unfold isTy; simp only [y_n, y_b, y_i, y_s, y_l, y_t, y_r, y_d]; decide
theorem ty_bool_r : isTy "bool" (.scr ns) = false := by unfold isTy; simp only [y_n, y_b, y_i, y_s, y_l, y_t, y_r, y_d]; decide
theorem ty_bool_d : isTy "bool" (.dct kvs) = false := by unfold isTy; simp only [y_n, y_b, y_i, y_s, y_l, y_t, y_r, y_d]; decide
theorem ty_bool_e {nm : Str} : isTy "bool" (.exc nm) = false := by simp [isTy, tyN]
theorem ty_str_n : isTy "str" .non = false := by unfold isTy; simp only [y_n, y_b, y_i, y_s, y_l, y_t, y_r, y_d]; decide
theorem ty_str_b : isTy "str" (.bl b) = false := by unfold isTy; simp only [y_n, y_b, y_i, y_s, y_l, y_t, y_r, y_d]; decide
theorem ty_str_i : isTy "str" (.int i) = false := by unfold isTy; simp only [y_n, y_b, y_i, y_s, y_l, y_t, y_r, y_d]; decide
theorem ty_str_s : isTy "str" (.str x) = true := by unfold isTy; simp only [y_n, y_b, y_i, y_s, y_l, y_t, y_r, y_d]; decide
theorem ty_str_l : isTy "str" (.lst a) = false := by unfold isTy; simp only [y_n, y_b, y_i, y_s, y_l, y_t, y_r, y_d]; decide
theorem ty_str_t : isTy "str" (.tup a) = false := by unfold isTy; simp only [y_n, y_b, y_i, y_s, y_l, y_t, y_r, y_d]; decide
theorem ty_str_r : isTy "str" (.scr ns) = false := by unfold isTy; simp only [y_n, y_b, y_i, y_s, y_l, y_t, y_r, y_d]; decide
theorem ty_str_d : isTy "str" (.dct kvs) = false := by unfold isTy; simp only [y_n, y_b, y_i, y_s, y_l, y_t, y_r, y_d]; decide
theorem ty_str_e {nm : Str} : isTy "str" (.exc nm) = false := by simp [isTy, tyN]
theorem ty_list_n : isTy "list" .non = false := by unfold isTy; simp only [y_n, y_b, y_i, y_s, y_l, y_t, y_r, y_d]; decide
theorem ty_list_b : isTy "list" (.bl b) = false := by unfold isTy; simp only [y_n, y_b, y_i, y_s, y_l, y_t, y_r, y_d]; decide
theorem ty_list_i : isTy "list" (.int i) = false := by unfold isTy; simp only [y_n, y_b, y_i, y_s, y_l, y_t, y_r, y_d]; decide
theorem ty_list_s : isTy "list" (.str x) = false := by unfold isTy; simp only [y_n, y_b, y_i, y_s, y_l, y_t, y_r, y_d]; decide
theorem ty_list_l : isTy "list" (.lst a) = true := by unfold isTy; simp only [y_n, y_b, y_i, y_s, y_l, y_t, y_r, y_d]; decide
theorem ty_list_t : isTy "list" (.tup a) = false := by unfold isTy; simp only [y_n, y_b, y_i, y_s, y_l, y_t, y_r, y_d]; decide
theorem ty_list_r : isTy "list" (.scr ns) = true := by unfold isTy; simp only [y_n, y_b, y_i, y_s, y_l, y_t, y_r, y_d]; decide
theorem ty_list_d : isTy "list" (.dct kvs) = false := by unfold isTy; simp only [y_n, y_b, y_i, y_s, y_l, y_t, y_r, y_d]; decide
theorem ty_list_e {nm : Str} : isTy "list" (.exc nm) = false := by simp [isTy, tyN]
theorem ty_tuple_n : isTy "tuple" .non = false := by unfold isTy; simp only [y_n, y_b, y_i, y_s, y_l, y_t, y_r, y_d]; decide
theorem ty_tuple_b : isTy "tuple" (.bl b) = false := by unfold isTy; simp only [y_n, y_b, y_i, y_s, y_l, y_t, y_r, y_d]; decide
theorem ty_tuple_i : isTy "tuple" (.int i) = false := by unfold isTy; simp only [y_n, y_b, y_i, y_s, y_l, y_t, y_r, y_d]; decide
theorem ty_tuple_s : isTy "tuple" (.str x) = false := by unfold isTy; simp only [y_n, y_b, y_i, y_s, y_l, y_t, y_r, y_d]; decide
theorem ty_tuple_l : isTy "tuple" (.lst a) = false := by unfold isTy; simp only [y_n, y_b, y_i, y_s, y_l, y_t, y_r, y_d]; decide
theorem ty_tuple_t : isTy "tuple" (.tup a) = true := by unfold isTy; simp only [y_n, y_b, y_i, y_s, y_l, y_t, y_r, y_d]; decide
theorem ty_tuple_r : isTy "tuple" (.scr ns) = false := by unfold isTy; simp only [y_n, y_b, y_i, y_s, y_l, y_t, y_r, y_d]; decide
theorem ty_tuple_d : isTy "tuple" (.dct kvs) = false := by unfold isTy; simp only [y_n, y_b, y_i, y_s, y_l, y_t, y_r, y_d]; decide
theorem ty_tuple_e {nm : Str} : isTy "tuple" (.exc nm) = false := by simp [isTy, tyN]
theorem ty_dict_n : isTy "dict" .non = false := by unfold isTy; simp only [y_n, y_b, y_i, y_s, y_l, y_t, y_r, y_d]; decide
theorem ty_dict_b : isTy "dict" (.bl b) = false := by unfold isTy; simp only [y_n, y_b, y_i, y_s, y_l, y_t, y_r, y_d]; decide
theorem ty_dict_i : isTy "dict" (.int i) = false := by unfold isTy; simp only [y_n, y_b, y_i, y_s, y_l, y_t, y_r, y_d]; decide
theorem ty_dict_s : isTy "dict" (.str x) = false := by unfold isTy; simp only [y_n, y_b, y_i, y_s, y_l, y_t, y_r, y_d]; decide
theorem ty_dict_l : isTy "dict" (.lst a) = false := by unfold isTy; simp only [y_n, y_b, y_i, y_s, y_l, y_t, y_r, y_d]; decide
theorem ty_dict_t : isTy "dict" (.tup a) = false := by unfold isTy; simp only [y_n, y_b, y_i, y_s, y_l, y_t, y_r, y_d]; decide
theorem ty_dict_r : isTy "dict" (.scr ns) = false := by unfold isTy; simp only [y_n, y_b, y_i, y_s, y_l, y_t, y_r, y_d]; decide
theorem ty_dict_d : isTy "dict" (.dct kvs) = true := by unfold isTy; simp only [y_n, y_b, y_i, y_s, y_l, y_t, y_r, y_d]; decide
theorem ty_dict_e {nm : Str} : isTy "dict" (.exc nm) = false := by simp [isTy, tyN]
end
theorem se_c {x : Str} {N : List Str} {a : Ar} {as : List Ar} : startE (x :: N) (a :: as) = arSl a :: startE N as := by
  unfold startE
  simp
theorem se_n {x : Str} {N : List Str} : startE (x :: N) [] = .no :: startE N [] := by
  unfold startE
  simp [List.replicate_succ]
theorem se_0 : startE [] [] = [] := rfl
theorem ar_b {d : D} : arSl (.bor d) = .bor d := rfl
theorem ar_s {d : D} : arSl (.sh d) = .sh d := rfl
theorem ar_g {n : Nat} : arSl (.bag n) = .bag n := rfl

theorem loop_rule {α : Type} {g : TGq} {body : TSq} {DQ : Ens} {items : List D} (E : α → En) (I : Nat → α → Prop) (a0 : α) (h0 : I 0 a0)
    (hs : ∀ n d a (X : En → Prop), items[n]? = some d → I n a → (∀ a', I (n + 1) a' → X (E a')) → g d (E a) fun env1 => body { DQ with nx := X, ct := X, bk := DQ.nx } env1)
    (he : ∀ a, I items.length a → DQ.nx (E a)) : loopQ g body DQ items (E a0) := by
  have key : ∀ (ds : List D) (n : Nat) (a : α), items.drop n = ds → n ≤ items.length → I n a → loopQ g body DQ ds (E a) := by
    intro ds
    induction ds with
    | nil =>
      intro n a hd hn hI
      have hl : items.length - n = 0 := by rw [← List.length_drop, hd]; rfl
      have : n = items.length := by omega
      subst this
      exact he a hI
    | cons d ds ih =>
      intro n a hd hn hI
      have h1 : items[n]? = some d := by
        have : (items.drop n)[0]? = some d := by rw [hd]; rfl
        rw [List.getElem?_drop] at this
        simpa using this
      have h2 : items.drop (n + 1) = ds := by rw [← List.drop_drop, hd]; rfl
      have h3 : n < items.length := by
        rcases Nat.lt_or_ge n items.length with h | h
        · exact h
        · rw [List.getElem?_eq_none h] at h1; cases h1
      exact hs n d a _ h1 hI fun a' hI' => ih (n + 1) a' h2 h3 hI'
  exact key items 0 a0 rfl (Nat.zero_le _) h0
def compStep (g : TGq) (tt : TTq) (te : TEq) (vs : List Nat) (acc : List D) (X : List D → En → Prop) (d : D) (env : En) : Prop :=
  g d env fun env1 => tt env1 (fun y env2 => cIf y (hold (fun _ => te env2 (fun y env3 => sh1C env3 y fun e env4 => acc.length < 10000000 ∧ wp env4 vs (X (acc ++ [e]))) (fun _ _ _ => False)) .mk) (hold (fun _ => wp env2 vs (X acc)) .mk)) fun _ _ _ => False
theorem comp_rule {α : Type} {g : TGq} {tt : TTq} {te : TEq} {vs : List Nat} {items : List D} {k : List D → En → Prop} (E : α → En) (I : Nat → α → List D → Prop) (a0 : α) (h0 : I 0 a0 [])
    (hs : ∀ n d a acc (X : List D → En → Prop), items[n]? = some d → I n a acc → (∀ a' acc', I (n + 1) a' acc' → X acc' (E a')) → compStep g tt te vs acc X d (E a))
    (he : ∀ a acc, I items.length a acc → k acc (E a)) : compQ g tt te vs items [] (E a0) k := by
  have key : ∀ (ds : List D) (n : Nat) (a : α) (acc : List D), items.drop n = ds → n ≤ items.length → I n a acc → compQ g tt te vs ds acc (E a) k := by
    intro ds
    induction ds with
    | nil =>
      intro n a acc hd hn hI
      have hl : items.length - n = 0 := by rw [← List.length_drop, hd]; rfl
      have : n = items.length := by omega
      subst this
      exact he a acc hI
    | cons d ds ih =>
      intro n a acc hd hn hI
      have h1 : items[n]? = some d := by
        have : (items.drop n)[0]? = some d := by rw [hd]; rfl
        rw [List.getElem?_drop] at this
        simpa using this
      have h2 : items.drop (n + 1) = ds := by rw [← List.drop_drop, hd]; rfl
      have h3 : n < items.length := by
        rcases Nat.lt_or_ge n items.length with h | h
        · exact h
        · rw [List.getElem?_eq_none h] at h1; cases h1
      have q := hs n d a acc (fun acc' env' => compQ g tt te vs ds acc' env' k) h1 hI fun a' acc' hI' => ih (n + 1) a' acc' h2 h3 hI'
      have e : ∀ env2, compStep g tt te vs acc (fun acc' env' => compQ g tt te vs ds acc' env' k) d env2 = compQ g tt te vs (d :: ds) acc env2 k := fun env2 => rfl
      rw [e] at q
      exact q
  exact key items 0 a0 [] rfl (Nat.zero_le _) h0
theorem while_rule {α : Type} {cd : TTq} {body : TSq} {DQ : Ens} (E : α → En) (I : Nat → α → Prop) (n0 : Nat) (a0 : α) (h0 : I n0 a0) (hz : ∀ a, ¬ I 0 a)
    (hs : ∀ n a (X : En → Prop), I (n + 1) a → (∀ a', I n a' → X (E a')) → cd (E a) (fun y env1 => cIf y (hold (fun _ => body { DQ with nx := X, ct := X, bk := DQ.nx } env1) .mk) (hold (fun _ => DQ.nx env1) .mk)) DQ.ex) : qWhile cd body DQ (E a0) := by
  refine ⟨n0, ?_⟩
  induction n0 generalizing a0 with
  | zero => exact (hz a0 h0).elim
  | succ n ih => exact hs n a0 _ h0 fun a' h => ih a' h
theorem ranged_get {lo : Int} {m n : Nat} {d : D} (h : (ranged lo m)[n]? = some d) : n < m ∧ d = .int (lo + (n : Nat)) := by
  unfold ranged at h
  rw [List.getElem?_map] at h
  rcases Nat.lt_or_ge n m with hl | hl
  · rw [List.getElem?_range hl] at h
    cases h
    exact ⟨hl, rfl⟩
  · rw [List.getElem?_eq_none (by simpa using hl)] at h
    cases h
theorem ints_get {ns : List Int} {n : Nat} {d : D} (h : (ns.map D.int)[n]? = some d) : ∃ i, ns[n]? = some i ∧ d = .int i := by
  rw [List.getElem?_map] at h
  cases e : ns[n]? with
  | none => rw [e] at h; cases h
  | some i => rw [e] at h; cases h; exact ⟨i, rfl, rfl⟩
theorem int_app {ns : List Int} {i : Int} : ns.map D.int ++ [.int i] = (ns ++ [i]).map D.int := by simp
theorem int_appL {ns ms : List Int} : ns.map D.int ++ ms.map D.int = (ns ++ ms).map D.int := by simp
theorem toPs_ints (ns : List Int) : toPs (ns.map D.int) = ns.map PyData.int := by
  induction ns with
  | nil => rfl
  | cons n ns ih =>
    show toP (.int n) :: toPs (ns.map D.int) = _
    rw [ih]; rfl
end Q
set_option Elab.async false
set_option linter.all false
set_option maxRecDepth 100000
set_option maxHeartbeats 2000000
set_option autoImplicit false
namespace Q
open PySem PySem.Spec PyProof.Rows L2
abbrev Bk (α : Type) := Shared → Hp → Addr → List (Str × Addr) → List Addr → α
section
variable {X : Cx} {g : Gd} {W : WX} {tg iter elt : Expr} {ifs : List Expr} {scope : Scope} {own : List (Str × Nat)} {ti : TI} {qi : TIq} {t : Bk TG} {q : TGq} {tt : Bk TT} {qt : TTq} {te : Bk TE} {qe : TEq} {pos : Pos}
theorem qn_lcB (own : List (Str × Nat)) (hc : X.calm = true) (hN : X.N.Nodup) (hi : QI X g W tg iter ti qi) (ok : BlkOk X.N X.env.scope scope own)
    (hg : ∀ (s : Shared) (H : Hp) (C : Addr) (cl : List (Str × Addr)) (fp : List Addr), QG (X.blk s H scope (compEnvC scope cl C X.env) fp) g (own.map (·.2)) tg (t s H C cl fp) q) (ht : ∀ (s : Shared) (H : Hp) (C : Addr) (cl : List (Str × Addr)) (fp : List Addr), QTs (X.blk s H scope (compEnvC scope cl C X.env) fp) g ifs (tt s H C cl fp) qt)
    (he : ∀ (s : Shared) (H : Hp) (C : Addr) (cl : List (Str × Addr)) (fp : List Addr), QE (X.blk s H scope (compEnvC scope cl C X.env) fp) g W0 elt (te s H C cl fp) qe) (hs : ∀ x, foldedSetIterable iter X.env x = pure x := by intro _; rfl)
    (e1 : ∀ s H C cl fp, t s H C cl fp = t X.s_0 X.H_0 0 [] [] := by intros; rfl) (e2 : ∀ s H C cl fp, tt s H C cl fp = tt X.s_0 X.H_0 0 [] [] := by intros; rfl) (e3 : ∀ s H C cl fp, te s H C cl fp = te X.s_0 X.H_0 0 [] [] := by intros; rfl) :
    QN X g W (.ListComp elt [⟨tg, iter, ifs, 0⟩] scope pos) (tLc ti (t X.s_0 X.H_0 0 [] []) (tt X.s_0 X.H_0 0 [] []) (te X.s_0 X.H_0 0 [] []) (own.map (·.2))) (qLc qi q qt qe (own.map (·.2))) :=
  qn_lc own hc hN hi ok (fun s H C cl fp => e1 s H C cl fp ▸ hg s H C cl fp) (fun s H C cl fp => e2 s H C cl fp ▸ ht s H C cl fp) (fun s H C cl fp => e3 s H C cl fp ▸ he s H C cl fp) hs
theorem qs_setLcB {i : Nat} {y : Str} {py spos : Pos} (own : List (Str × Nat)) (hc : X.calm = true) (hN : X.N.Nodup) (hy : X.N[i]? = some y) (hyl : X.env.scope.names.lookup y = some .local)
    (hsw : swapsWith (.ListComp elt [⟨tg, iter, ifs, 0⟩] scope pos) (some (.Name y py)) spos.line X.env = pure true) (hi : QI X g W tg iter ti qi) (ok : BlkOk X.N X.env.scope scope own)
    (hg : ∀ (s : Shared) (H : Hp) (C : Addr) (cl : List (Str × Addr)) (fp : List Addr), QG (X.blk s H scope (compEnvC scope cl C X.env) fp) g (own.map (·.2)) tg (t s H C cl fp) q) (ht : ∀ (s : Shared) (H : Hp) (C : Addr) (cl : List (Str × Addr)) (fp : List Addr), QTs (X.blk s H scope (compEnvC scope cl C X.env) fp) g ifs (tt s H C cl fp) qt)
    (he : ∀ (s : Shared) (H : Hp) (C : Addr) (cl : List (Str × Addr)) (fp : List Addr), QE (X.blk s H scope (compEnvC scope cl C X.env) fp) g W0 elt (te s H C cl fp) qe) (hs : ∀ x, foldedSetIterable iter X.env x = pure x := by intro _; rfl)
    (e1 : ∀ s H C cl fp, t s H C cl fp = t X.s_0 X.H_0 0 [] [] := by intros; rfl) (e2 : ∀ s H C cl fp, tt s H C cl fp = tt X.s_0 X.H_0 0 [] [] := by intros; rfl) (e3 : ∀ s H C cl fp, te s H C cl fp = te X.s_0 X.H_0 0 [] [] := by intros; rfl) :
    QS X g W (.Assign [.Name y py] (.ListComp elt [⟨tg, iter, ifs, 0⟩] scope pos) spos) (tAsg (tLc ti (t X.s_0 X.H_0 0 [] []) (tt X.s_0 X.H_0 0 [] []) (te X.s_0 X.H_0 0 [] []) (own.map (·.2))) (gName i)) (qSetN i (qLc qi q qt qe (own.map (·.2)))) :=
  qs_setLc own hc hN hy hyl hsw hi ok (fun s H C cl fp => e1 s H C cl fp ▸ hg s H C cl fp) (fun s H C cl fp => e2 s H C cl fp ▸ ht s H C cl fp) (fun s H C cl fp => e3 s H C cl fp ▸ he s H C cl fp) hs
end
theorem comp_pure {g : TGq} {tt : TTq} {te : TEq} {vs : List Nat} {items : List D} {env : En} {k : List D → En → Prop} (p : D → Bool) (f : D → D)
    (hs : ∀ n d acc (X : List D → En → Prop), items[n]? = some d → acc.length ≤ n → X (if p d = true then acc ++ [f d] else acc) env → compStep g tt te vs acc X d env)
    (he : k ((items.filter p).map f) env) : compQ g tt te vs items [] env k := by
  refine comp_rule (fun _ : Unit => env) (fun n _ acc => acc = ((items.take n).filter p).map f) () (by simp) (fun n d a acc X hd hI hX => ?_) fun a acc h => ?_
  · refine hs n d acc X hd ?_ (hX () _ ?_)
    · rw [hI, List.length_map]
      exact Nat.le_trans (List.length_filter_le ..) (List.length_take_le ..)
    · have : items.take (n + 1) = items.take n ++ [d] := by
        rw [List.take_add_one, hd]; rfl
      rw [this, List.filter_append, List.map_append, ← hI]
      by_cases hp : p d = true
      · rw [if_pos hp, List.filter_cons_of_pos hp]; rfl
      · rw [if_neg hp, List.filter_cons_of_neg hp]; simp
  · rw [List.take_length] at h
    rw [h]; exact he
theorem f_allM {α : Type} {l : List α} {b : α → Bool} {k : D → Prop} : fAll [.lst (l.map fun d => .bl (b d))] k = k (.bl (l.all b)) := by
  apply propext
  constructor
  · rintro ⟨bs, h, q⟩
    have : bs = l.map b := by
      have e : bs.map D.bl = (l.map b).map D.bl := by rw [← h, List.map_map]; rfl
      exact (List.map_inj_right (fun a b h => by cases h; rfl)).mp e
    subst this
    rw [List.all_map] at q
    exact q
  · intro q
    refine ⟨l.map b, by rw [List.map_map]; rfl, ?_⟩
    rw [List.all_map]; exact q
theorem f_anyM {α : Type} {l : List α} {b : α → Bool} {k : D → Prop} : fAny [.lst (l.map fun d => .bl (b d))] k = k (.bl (l.any b)) := by
  apply propext
  constructor
  · rintro ⟨bs, h, q⟩
    have : bs = l.map b := by
      have e : bs.map D.bl = (l.map b).map D.bl := by rw [← h, List.map_map]; rfl
      exact (List.map_inj_right (fun a b h => by cases h; rfl)).mp e
    subst this
    rw [List.any_map] at q
    exact q
  · intro q
    refine ⟨l.map b, by rw [List.map_map]; rfl, ?_⟩
    rw [List.any_map]; exact q
theorem e_lenSet {q : TEq} {env : En} {k : Va → En → Prop} {x : XQ} : qLenSet q env k x = q env (fun y env1 => rd env1 y (dL fun l => ∃ ns : List Int, l = ns.map .int ∧ ns.length ≤ 4000 ∧ hold (fun n : Int => k (.d (.int n)) env1) .mk ((dd ns).length : Nat))) x := by
  unfold qLenSet
  congr
  funext y env1
  apply propext
  constructor
  · rintro ⟨ns, h, q⟩
    exact ⟨_, h, ns, rfl, q⟩
  · rintro ⟨d, h, q⟩
    cases d <;> first | exact False.elim q | (obtain ⟨ns, e, q⟩ := q; subst e; exact ⟨ns, h, q⟩)
theorem filter_tt {α : Type} {l : List α} : l.filter (fun _ => true) = l := by simp
def prB (b : Int → D → Bool) : D → Bool
  | .tup [.int p, e] => b p e
  | _ => false
def prI (b : Int → D → Int) : D → Int
  | .tup [.int p, e] => b p e
  | _ => 0
theorem prB_e {b : Int → D → Bool} {p : Int} {e : D} : prB b (.tup [.int p, e]) = b p e := rfl
theorem prI_e {b : Int → D → Int} {p : Int} {e : D} : prI b (.tup [.int p, e]) = b p e := rfl
theorem numbered_at {ds : List D} {n : Nat} {e : D} (h : ds[n]? = some e) : ∀ m, (numbered m ds)[n]? = some (.tup [.int ((m + n : Nat) : Int), e]) := by
  induction ds generalizing n with
  | nil => simp at h
  | cons d ds ih =>
    intro m
    cases n with
    | zero =>
      simp at h; subst h; rfl
    | succ n =>
      have := ih (n := n) (by simpa using h) (m + 1)
      show (numbered (m + 1) ds)[n]? = _
      rw [this]
      have z : m + 1 + n = m + (n + 1) := by omega
      rw [z]
theorem numbered_all {b : Int → D → Bool} {ds : List D} : (numbered 0 ds).all (prB b) = true ↔ ∀ (n : Nat) (e : D), ds[n]? = some e → b (n : Int) e = true := by
  rw [List.all_eq_true]
  constructor
  · intro h n e he
    have := numbered_at he 0
    have := h _ (List.mem_of_getElem? this)
    rw [prB_e] at this
    simpa using this
  · intro h x hx
    obtain ⟨n, hn⟩ := List.getElem?_of_mem hx
    obtain ⟨e, he, rfl⟩ := numbered_get 0 ds n x hn
    rw [prB_e]
    have := h n e he
    simpa using this
theorem num_get {ds : List D} {n : Nat} {x : D} (h : (numbered 0 ds)[n]? = some x) : ∃ e, ds[n]? = some e ∧ x = .tup [.int (n : Int), e] := by
  obtain ⟨e, h1, h2⟩ := numbered_get 0 ds n x h
  rw [Nat.zero_add] at h2
  exact ⟨e, h1, h2⟩
theorem num_at {ds : List D} {n : Nat} {e : D} (h : ds[n]? = some e) : (numbered 0 ds)[n]? = some (.tup [.int (n : Int), e]) := by
  have := numbered_at h 0
  rw [Nat.zero_add] at this
  exact this
theorem num_none {ds : List D} {n : Nat} (h : ds[n]? = none) : (numbered 0 ds)[n]? = none := by
  rw [List.getElem?_eq_none_iff, numbered_length]
  exact List.getElem?_eq_none_iff.mp h
end Q
set_option Elab.async false
set_option linter.all false
set_option maxRecDepth 100000
set_option maxHeartbeats 2000000
set_option autoImplicit false
namespace Q
open PySem PySem.Spec PyProof.Rows L2
theorem ev_ints : ∀ ns ms : List Int, PyData.eqvAll (ns.map PyData.int) (ms.map PyData.int) = decide (ns = ms)
  | [], [] => by simp [PyData.eqvAll]
  | [], _ :: _ => by simp [PyData.eqvAll]
  | _ :: _, [] => by simp [PyData.eqvAll]
  | a :: r, b :: t => by
    simp only [List.map_cons, PyData.eqvAll, PyData.eqv, ev_ints r t]
    by_cases h : a = b <;> by_cases h' : r = t <;> simp [h, h']
theorem cl_ints : ∀ ns : List Int, PyData.canLayAll0 (ns.map PyData.int) = true
  | [] => rfl
  | _ :: r => by simp [PyData.canLayAll0, PyData.canLay0, cl_ints r]
theorem dp_ints0 : ∀ ns : List Int, PyData.depthAll (ns.map PyData.int) = 0
  | [] => rfl
  | _ :: r => by simp [PyData.depthAll, PyData.depth, dp_ints0 r]
theorem shp_l (ns : List Int) : SeqAt.shaped (toP (.lst (ns.map .int))) = true := by
  unfold toP
  rw [toPs_ints]
  simp [SeqAt.shaped, PyData.canLay0, PyData.depth, cl_ints, dp_ints0]
theorem shp_t (ns : List Int) : SeqAt.shaped (toP (.tup (ns.map .int))) = true := by
  unfold toP
  rw [toPs_ints]
  simp [SeqAt.shaped, PyData.canLay0, PyData.depth, cl_ints, dp_ints0]
theorem ev_l (a b : List Int) : PyData.eqv (toP (.lst (a.map .int))) (toP (.lst (b.map .int))) = decide (a = b) := by
  unfold toP
  rw [toPs_ints, toPs_ints, PyData.eqv]
  exact ev_ints a b
theorem ev_t (a b : List Int) : PyData.eqv (toP (.tup (a.map .int))) (toP (.tup (b.map .int))) = decide (a = b) := by
  unfold toP
  rw [toPs_ints, toPs_ints, PyData.eqv]
  exact ev_ints a b
section
variable {a b : List Int} {k : D → Prop}
theorem f_eqIL : fEq (.lst (a.map .int)) (.lst (b.map .int)) k = k (.bl (decide (a = b))) := by
  show (SeqAt.shaped _ = true ∧ SeqAt.shaped _ = true ∧ k (.bl (PyData.eqv _ _))) = _
  rw [ev_l]
  exact propext ⟨fun h => h.2.2, fun h => ⟨shp_l a, shp_l b, h⟩⟩
theorem f_neIL : fNe (.lst (a.map .int)) (.lst (b.map .int)) k = k (.bl (!decide (a = b))) := by
  show (SeqAt.shaped _ = true ∧ SeqAt.shaped _ = true ∧ k (.bl (!PyData.eqv _ _))) = _
  rw [ev_l]
  exact propext ⟨fun h => h.2.2, fun h => ⟨shp_l a, shp_l b, h⟩⟩
theorem f_eqIT : fEq (.tup (a.map .int)) (.tup (b.map .int)) k = k (.bl (decide (a = b))) := by
  show (SeqAt.shaped _ = true ∧ SeqAt.shaped _ = true ∧ k (.bl (PyData.eqv _ _))) = _
  rw [ev_t]
  exact propext ⟨fun h => h.2.2, fun h => ⟨shp_t a, shp_t b, h⟩⟩
theorem f_neIT : fNe (.tup (a.map .int)) (.tup (b.map .int)) k = k (.bl (!decide (a = b))) := by
  show (SeqAt.shaped _ = true ∧ SeqAt.shaped _ = true ∧ k (.bl (!PyData.eqv _ _))) = _
  rw [ev_t]
  exact propext ⟨fun h => h.2.2, fun h => ⟨shp_t a, shp_t b, h⟩⟩
theorem f_eqNil : fEq (.lst (a.map .int)) (.lst []) k = k (.bl (decide (a = []))) := f_eqIL (b := [])
theorem f_neNil : fNe (.lst (a.map .int)) (.lst []) k = k (.bl (!decide (a = []))) := f_neIL (b := [])
end
theorem atI_pos {α : Type} {xs : List α} {i : Int} (h0 : 0 ≤ i) : atI xs i = xs[i.toNat]? := by
  unfold atI ixN
  rw [if_pos h0]
  by_cases h : i < xs.length
  · rw [if_pos h]; rfl
  · rw [if_neg h, List.getElem?_eq_none (by omega)]; rfl
theorem ix_pick {xs : List D} {i : Int} {k : D → Prop} (h0 : 0 ≤ i) (h1 : i < xs.length) (h : ∀ d ∈ xs, k d) : fIx (.lst xs) (.int i) k := by
  have hl : i.toNat < xs.length := by omega
  refine ⟨xs[i.toNat], ?_, h _ (List.getElem_mem ..)⟩
  rw [atI_pos h0, List.getElem?_eq_getElem hl]
theorem ix_pickI {xs : List D} {i : Int} {k : D → Prop} (P : Int → Prop) (h0 : 0 ≤ i) (h1 : i < xs.length) (hP : ∀ d ∈ xs, ∃ v, d = .int v ∧ P v) (h : ∀ v, P v → k (.int v)) : fIx (.lst xs) (.int i) k :=
  ix_pick h0 h1 fun d hd => by
    obtain ⟨v, rfl, hv⟩ := hP d hd
    exact h v hv
theorem ix_ints {ns : List Int} {i : Int} {k : D → Prop} (h0 : 0 ≤ i) (h1 : i < ns.length) (h : ∀ (n : Int), ns[i.toNat]? = some n → k (.int n)) : fIx (.lst (ns.map .int)) (.int i) k := by
  have hl : i.toNat < ns.length := by omega
  refine ⟨.int ns[i.toNat], ?_, h _ (List.getElem?_eq_getElem hl)⟩
  rw [atI_pos h0, List.getElem?_map, List.getElem?_eq_getElem hl]; rfl
end Q
set_option Elab.async false
set_option linter.all false
set_option maxRecDepth 100000
set_option maxHeartbeats 2000000
set_option autoImplicit false
namespace Q
open PySem PySem.Spec PyProof.Rows L2
section
variable {X : Cx} {g : Gd} {W : WX} {e a b ec : Expr} {es : List Expr} {ta tb tc te : TE} {tl : TA} {qa qb qc qe : TEq} {ql : TAq} {pos : Pos} {c : Cg}
theorem sm_chain {r r' : R2} {f f' : D → D → (D → Prop) → Prop} (h : Op2 c.K r f) (h' : Op2 c.K r' f') (ha : Sm c W ta qa) (hb : Sm c W tb qb) (hc : Sm c W tc qc) : Sm c W (tChain r r' ta tb tc) (qChain f f' qa qb qc) := by
  intro F P S b σ H env k x Q R hq hx hk
  refine ha F P S b σ H env _ x _ R hq hx fun S1 H1 env1 v y R1 e1 r1 h1 => ?_
  refine hb F P S1 b σ H1 env1 _ x _ R1 h1 (hx.mono e1) fun S2 H2 env2 u z R2 e2 r2 h2 => ?_
  obtain ⟨d, e, hd, he, hf⟩ := h2
  refine h S2 H2 v u d e _ _ R2.sh (R2.read (r1.mono e2.1) hd) (R2.read r2 he) hf fun w zz hz hw => ?_
  obtain ⟨bb, rfl, h3⟩ := hw
  cases hz
  refine ⟨bb, rfl, ?_⟩
  cases bb with
  | false =>
    rw [if_neg Bool.false_ne_true] at h3 ⊢
    exact hk S2 H2 env2 _ (.d (.bl false)) R2 (e1.trans e2) (.bl false) h3
  | true =>
    rw [if_pos rfl] at h3 ⊢
    refine hc F P S2 b σ H2 env2 _ x _ R2 h3 (hx.mono (e1.trans e2)) fun S3 H3 env3 v3 y3 R3 e3 r3 h4 => ?_
    obtain ⟨e', d', he', hd', hf'⟩ := h4
    exact h' S3 H3 u v3 e' d' _ Q R3.sh (R3.read (r2.mono e3.1) he') (R3.read r3 hd') hf' fun w z hz kz => hk S3 H3 env3 w (.d z) R3 (e1.trans (e2.trans e3)) hz kz
theorem q_chain {op op' : CmpOp} {r r' : R2} {f f' : D → D → (D → Prop) → Prop} (ho : OpR X (compareOp op) r) (h : Op2 X.K r f) (ho' : OpR X (compareOp op') r') (h' : Op2 X.K r' f') (ha : QE X g W a ta qa) (hb : QE X g W b tb qb) (hc : QE X g W ec tc qc)
    (hm : lastMarks [op, op'] [b, ec] = false := by with_unfolding_all rfl) : QE X g W (.Compare a [op, op'] [b, ec] pos) (tChain r r' ta tb tc) (qChain f f' qa qb qc) :=
  ⟨pe_chain ho ho' ha.pe hb.pe hc.pe hm, fun N => sm_chain h h' (ha.sm N) (hb.sm N) (hc.sm N)⟩
theorem e_chain {f f' : D → D → (D → Prop) → Prop} {env : En} {k : Va → En → Prop} {x : XQ} : qChain f f' qa qb qc env k x = qa env (fun y env1 => qb env1 (fun z env2 => rd env2 y fun d => rd env2 z fun e => f d e (hold (fun w => dB (fun b => cIf b (hold (fun _ => qc env2 (fun z' env3 => rd env3 z fun e => rd env3 z' fun d' => f' e d' (hold (fun w => k (.d w) env3) .mk)) x) .mk) (hold (fun _ => k (.d (.bl false)) env2) .mk)) w) .mk)) x) x := by
  have z : ∀ (w : D) (f : Bool → Prop), (∃ b, w = .bl b ∧ f b) = dB f w := fun w f => by
    apply propext
    cases w <;> first | exact ⟨fun ⟨_, h, q⟩ => (by cases h; exact q), fun q => ⟨_, rfl, q⟩⟩ | exact ⟨fun ⟨_, h, _⟩ => (by cases h), fun q => False.elim q⟩
  unfold qChain rd
  simp only [ex2, z]
  rfl
def qAsgT (qe : TEq) (q : TGq) : TSq := fun DQ env => qe env (fun y env1 => ∃ d env2, sh1 env1 y = some (d, env2) ∧ q d env2 DQ.nx) DQ.ex
theorem qs_unpack {tg : Expr} {t : TG} {q : TGq} (ix : List Nat) (he : QE X g W e te qe) (hg : QG X g ix tg t q) (hs : swapsWithSole [tg] e pos.line X.env = pure false := by rfl) (hw : swappedStores [tg] e X.env = pure none := by rfl)
    (h1 : (assignEach [tg] X.env).map (·.2) = [assign tg X.env] := by rfl) : QS X g W (.Assign [tg] e pos) (tAsg te t) (qAsgT qe q) :=
  ⟨ps_asg he.pe hg.pg hs hw h1, fun N F P S bb σ H env DQ D R hq k => by
    refine he.sm N F P S bb σ H env _ DQ.ex _ R hq k.ex fun S1 H1 env1 v y R1 e1 r1 h1 => ?_
    obtain ⟨d, env2, hs, hn⟩ := h1
    obtain ⟨S2, R2, e2, r2⟩ := sh1_ok R1 r1 hs
    exact hg.sm N F P S2 bb σ H1 env2 v d _ _ R2 r2 hn fun σ' env' R' _ k' => k.nx S2 σ' H1 env' R' (e1.trans e2) k'⟩
theorem e_asgT {q : TGq} {DQ : Ens} {env : En} : qAsgT qe q DQ env = qe env (fun y env1 => sh1C env1 y fun d env2 => q d env2 DQ.nx) DQ.ex := rfl
end
end Q
set_option Elab.async false
set_option linter.all false
set_option maxRecDepth 100000
set_option maxHeartbeats 2000000
set_option autoImplicit false
namespace Q
open PySem PySem.Spec PyProof.Rows L2
def leO (i : Int) : D → Bool
  | .int h => decide (i ≤ h)
  | _ => true
def intIn (lo : Int) (hi : D) : D → Bool
  | .int i => decide (lo ≤ i) && leO i hi
  | _ => false
def hiOk : D → Bool
  | .non => true
  | .int _ => true
  | _ => false

def isSeq (d : D) : Bool := isTy "list" d || isTy "tuple" d

def toI : D → Int
  | .int i => i
  | _ => 0
def okE (ds : List D) : Bool := (numbered 0 ds).all (prB fun p e => intIn 0 (.int p) e)
def tgs (ds : List D) : List Int := ((numbered 0 ds).filter (prB fun _ e => decide (toI e > 0))).map (prI fun p e => p - toI e)
def distB (ds : List D) : Bool := decide (ds.length ≤ 400) && okE ds && decide ((dd (tgs ds)).length = (tgs ds).length)
def isDist : D → Bool
  | .lst ds => distB ds
  | .tup ds => distB ds
  | .scr ns => distB (ns.map .int)
  | _ => false
theorem okE_get {ds : List D} (h : okE ds = true) {n : Nat} {e : D} (he : ds[n]? = some e) : ∃ i : Int, e = .int i ∧ 0 ≤ i ∧ i ≤ n := by
  have := numbered_all.mp h n e he
  cases e with
  | int i => exact ⟨i, rfl, by simpa [intIn, leO] using this⟩
  | _ => simp [intIn] at this
theorem distB_long {ds : List D} (h : ¬ ds.length ≤ 400) : distB ds = false := by simp [distB, h]
theorem distB_bad {ds : List D} (h : okE ds = false) : distB ds = false := by simp [distB, h]
theorem distB_ok {ds : List D} (h : ds.length ≤ 400) (h2 : okE ds = true) : distB ds = decide ((((dd (tgs ds)).length : Nat) : Int) = ((((numbered 0 ds).filter (prB fun _ e => decide (toI e > 0))).length : Nat) : Int)) := by
  have e : (tgs ds).length = ((numbered 0 ds).filter (prB fun _ e => decide (toI e > 0))).length := by unfold tgs; rw [List.length_map]
  rw [← e]
  unfold distB
  rw [h2, decide_eq_true h]
  simp only [Bool.and_self, Bool.true_and, Int.ofNat_inj]
theorem tgs_length (ds : List D) : (tgs ds).length ≤ ds.length := by
  unfold tgs
  rw [List.length_map, ← numbered_length 0 ds]
  exact List.length_filter_le ..

def itemsOf (d : D) : List D := (dItems d).getD []

theorem sIx_of {n d : Nat} {i : Int} (h : 0 ≤ i) : HT.sIx n d (some i) = min i.toNat n := by
  unfold HT.sIx
  have e : ¬ i < 0 := by omega
  simp [e]
theorem cut_win {α : Type} {ns : List α} {s l : Int} (h1 : 0 ≤ s) (h2 : 0 ≤ l) : cut ns (some s) (some (s + l)) = (ns.drop s.toNat).take l.toNat := by
  unfold cut
  rw [sIx_of h1, sIx_of (by omega)]
  have e : (s + l).toNat = s.toNat + l.toNat := by omega
  rw [e]
  rcases Nat.le_total s.toNat ns.length with h | h
  · rw [Nat.min_eq_left h]
    rcases Nat.le_total (s.toNat + l.toNat) ns.length with h3 | h3
    · rw [Nat.min_eq_left h3]
      congr 1; omega
    · rw [Nat.min_eq_right h3]
      rw [List.take_of_length_le (by rw [List.length_drop]; omega), List.take_of_length_le (by rw [List.length_drop]; omega)]
  · rw [Nat.min_eq_right h, List.drop_of_length_le h, List.drop_of_length_le (Nat.le_refl _)]
    simp

def lastIn (f : Nat → Bool) : Nat → Option Nat
  | 0 => none
  | n + 1 => if f n then some n else lastIn f n
theorem lastIn_some {f : Nat → Bool} : ∀ {n j : Nat}, lastIn f n = some j ↔ j < n ∧ f j = true ∧ ∀ m, j < m → m < n → f m = false
  | 0, j => by simp [lastIn]
  | n + 1, j => by
    unfold lastIn
    by_cases h : f n = true
    · rw [if_pos h]
      constructor
      · intro e; cases e
        exact ⟨Nat.lt_succ_self n, h, fun m h1 h2 => by omega⟩
      · rintro ⟨h1, h2, h3⟩
        rcases Nat.lt_or_ge j n with h4 | h4
        · have := h3 n h4 (Nat.lt_succ_self n); rw [h] at this; cases this
        · congr 1; omega
    · rw [if_neg h, lastIn_some]
      constructor
      · rintro ⟨h1, h2, h3⟩
        refine ⟨by omega, h2, fun m m1 m2 => ?_⟩
        rcases Nat.lt_or_ge m n with h4 | h4
        · exact h3 m m1 h4
        · have : m = n := by omega
          subst this; simpa using h
      · rintro ⟨h1, h2, h3⟩
        rcases Nat.lt_or_ge j n with h4 | h4
        · exact ⟨h4, h2, fun m m1 m2 => h3 m m1 (by omega)⟩
        · have : j = n := by omega
          subst this; exact absurd h2 h
theorem lastIn_none {f : Nat → Bool} : ∀ {n : Nat}, lastIn f n = none ↔ ∀ m, m < n → f m = false
  | 0 => by simp [lastIn]
  | n + 1 => by
    unfold lastIn
    by_cases h : f n = true
    · rw [if_pos h]
      constructor
      · intro e; cases e
      · intro h2; have := h2 n (Nat.lt_succ_self n); rw [h] at this; cases this
    · rw [if_neg h, lastIn_none]
      constructor
      · intro h2 m hm
        rcases Nat.lt_or_ge m n with h4 | h4
        · exact h2 m h4
        · have : m = n := by omega
          subst this; simpa using h
      · intro h2 m hm; exact h2 m (by omega)
def dAt {α : Type} [DecidableEq α] (w : List α) (p : Nat) : Int := match lastIn (fun j => decide (w[j]? = w[p]?)) p with
  | some j => (p : Int) - (j : Nat)
  | none => 0
def dist {α : Type} [DecidableEq α] (w : List α) : List Int := (List.range w.length).map (dAt w)
theorem dist_length {α : Type} [DecidableEq α] (w : List α) : (dist w).length = w.length := by simp [dist]
theorem dist_get {α : Type} [DecidableEq α] (w : List α) {p : Nat} (h : p < w.length) : (dist w)[p]? = some (dAt w p) := by
  unfold dist
  rw [List.getElem?_map, List.getElem?_range h]; rfl
theorem dAt_map {α β : Type} [DecidableEq α] [DecidableEq β] (f : α → β) (hf : ∀ a b, f a = f b → a = b) (w : List α) (p : Nat) : dAt (w.map f) p = dAt w p := by
  unfold dAt
  have : (fun j : Nat => decide ((w.map f)[j]? = (w.map f)[p]?)) = fun j : Nat => decide (w[j]? = w[p]?) := by
    funext j
    rw [List.getElem?_map, List.getElem?_map]
    apply decide_eq_decide.mpr
    cases w[j]? <;> cases w[p]? <;> simp
    exact ⟨hf _ _, fun e => by rw [e]⟩
  rw [this]
theorem dist_map {α β : Type} [DecidableEq α] [DecidableEq β] (f : α → β) (hf : ∀ a b, f a = f b → a = b) (w : List α) : dist (w.map f) = dist w := by
  unfold dist
  rw [List.length_map]
  apply List.map_congr_left
  intro p _
  exact dAt_map f hf w p

theorem dAt_bounds {α : Type} [DecidableEq α] (w : List α) (p : Nat) : 0 ≤ dAt w p ∧ dAt w p ≤ p := by
  unfold dAt
  split
  · rename_i j h
    have := (lastIn_some.mp h).1
    omega
  · omega
theorem dAt_pos {α : Type} [DecidableEq α] {w : List α} {p : Nat} (h : 0 < dAt w p) : ∃ j, lastIn (fun j => decide (w[j]? = w[p]?)) p = some j ∧ dAt w p = (p : Int) - (j : Nat) := by
  unfold dAt at h ⊢
  split at h
  · rename_i j hj
    exact ⟨j, hj, rfl⟩
  · omega
theorem dd_nodup {ns : List Int} (h : ns.Nodup) : dd ns = ns := by
  unfold dd
  rw [RZ.firstMet_nodup h ns.length (Nat.le_refl _), List.take_length]
theorem dist_ok {α : Type} [DecidableEq α] {w : List α} (h : w.length ≤ 400) : distB ((dist w).map .int) = true := by
  have ok : okE ((dist w).map .int) = true := by
    refine numbered_all.mpr fun n e he => ?_
    obtain ⟨i, hi, rfl⟩ := ints_get he
    have hn : n < w.length := by have := (List.getElem?_eq_some_iff.mp hi).1; rwa [dist_length] at this
    rw [dist_get w hn] at hi
    cases hi
    have := dAt_bounds w n
    simp [intIn, leO, this]
  rw [distB_ok (by rw [List.length_map, dist_length]; exact h) ok]
  have nd : (tgs ((dist w).map .int)).Nodup := by
    unfold tgs
    rw [List.Nodup, List.pairwise_map, List.pairwise_filter, List.pairwise_iff_getElem]
    intro i j hi hj hij h1 h2
    have e : ∀ (n : Nat) (hn : n < (numbered 0 ((dist w).map D.int)).length), (numbered 0 ((dist w).map D.int))[n] = .tup [.int (n : Int), .int (dAt w n)] ∧ n < w.length := fun n hn => by
      have hl : n < w.length := by rw [numbered_length, List.length_map, dist_length] at hn; exact hn
      have := num_at (ds := (dist w).map D.int) (n := n) (e := .int (dAt w n)) (by rw [List.getElem?_map, dist_get w hl]; rfl)
      rw [List.getElem?_eq_getElem hn] at this
      exact ⟨Option.some.inj this, hl⟩
    obtain ⟨e1, l1⟩ := e i hi
    obtain ⟨e2, l2⟩ := e j hj
    rw [e1] at h1 ⊢
    rw [e2] at h2 ⊢
    simp only [prB_e, prI_e, toI, decide_eq_true_eq, gt_iff_lt] at h1 h2 ⊢
    obtain ⟨a, ha, ea⟩ := dAt_pos h1
    obtain ⟨b, hb, eb⟩ := dAt_pos h2
    rw [ea, eb]
    intro z
    have ab : a = b := by omega
    subst ab
    obtain ⟨a1, a2, a3⟩ := lastIn_some.mp ha
    obtain ⟨b1, b2, b3⟩ := lastIn_some.mp hb
    have := b3 i a1 hij
    simp only [decide_eq_true_eq, decide_eq_false_iff_not] at a2 b2 this
    exact this (a2.symm.trans b2)
  rw [dd_nodup nd]
  apply decide_eq_true
  unfold tgs
  rw [List.length_map]
theorem isDist_l {α : Type} [DecidableEq α] {w : List α} (h : w.length ≤ 400) : isDist (.lst ((dist w).map .int)) = true := dist_ok h
theorem isDist_t {α : Type} [DecidableEq α] {w : List α} (h : w.length ≤ 400) : isDist (.tup ((dist w).map .int)) = true := dist_ok h
end Q
set_option Elab.async false
set_option linter.all false
set_option maxRecDepth 100000
set_option maxHeartbeats 2000000
set_option autoImplicit false
namespace Q
open PySem PySem.Spec PyProof.Rows L2
structure QF (X : Cx) (g : Gd) (st : Stmt) (i : Nat) (te : TE) (qn : TNq) : Prop where
  ps : PS X st (tAsg te (gName i))
  sm : ∀ M, SmN (cg X g M) W0 te qn
theorem qf_set {X : Cx} {g : Gd} {i : Nat} {x : Str} {e : Expr} {te : TE} {qn : TNq} {pos pos' : Pos} (hN : X.N.Nodup) (hi : X.N[i]? = some x) (hx : Loc X.env.scope x) (he : QN X g W0 e te qn) (hs : swapsWith e (some (.Name x pos')) pos.line X.env = pure false := by rfl)
    (hf : X.fn x = true ∨ X.env.scope.names.lookup x = some .local := by first | exact .inl rfl | exact .inr rfl | assumption) : QF X g (.Assign [.Name x pos'] e pos) i te qn := ⟨ps_set hN hi hx he.pe hs hf, he.sm⟩
theorem law_q2 {P : Program} {w : World} {K : Fg} {mg : Str → Option Value} {base : Heap} {x qual : Str} {params : Arguments} {st : Stmt} {sts : List Stmt} {scope : Scope} {f : Addr} {fd : FuncData} {N ps : List Str} {k : Nat} (i : Nat) (g : Gd)
    (Fn : FunD K x qual params (st :: sts) scope [] [] f fd) (S : FnScope N ps scope) (hl : ps.length = 1) (hl2 : 1 ≤ N.length)
    (hbody : ∀ (cdv : Value) (A : Around) (outer : List Env) (s : Shared) (H : Hp) (E : XK), A.guards = some [] → Room k (A.deeper (envOfC qual scope s.heap.objs.size f cdv)) →
      ∃ te qn t q, QF (cxOf (L2.CX P w) P w K mg base N qual scope f cdv A outer s H E) g st i te qn ∧ QSs (cxOf (L2.CX P w) P w K mg base N qual scope f cdv A outer s H E) g W0 sts t q ∧
        ∀ ns : List Int, ns.length ≤ 63 → qn (startE N [.bor (.scr ns)]) (fun r env => ∃ ds n, r = .own (.lst ds) ∧ g.ok ds ∧ g.cnt ds + n ≤ 2 ^ 60 ∧ i < env.length ∧ q { nx := fun _ => False, rt := fun r _ => r = .sh (.bl true) } (env.set i (.bag n))) fun _ _ _ => False) : FnG P w K mg base (k + 1) f fd ps (spLaw K) :=
  law_q (i := i) g Fn S hl hl2 fun cdv A outer s H E h1 h2 => by
    obtain ⟨te, qn, t, q, a, b, c⟩ := hbody cdv A outer s H E h1 h2
    exact ⟨te, qn, t, q, a.ps, fun M => a.sm M, b, c⟩
theorem loopJ {g : TGq} {body : TSq} {DQ : Ens} {items : List D} {env : En} (J : Nat → En → Prop) (h0 : J 0 env)
    (hs : ∀ n d env (X : En → Prop), items[n]? = some d → J n env → (∀ env', J (n + 1) env' → X env') → g d env fun env1 => body { DQ with nx := X, ct := X, bk := DQ.nx } env1)
    (he : ∀ env, J items.length env → DQ.nx env) : loopQ g body DQ items env := loop_rule (fun e : En => e) J env h0 hs he
end Q
set_option Elab.async false
set_option linter.all false
set_option maxRecDepth 100000
set_option maxHeartbeats 2000000
set_option autoImplicit false
namespace Q
open PySem PySem.Spec PyProof.Rows L2
def zc (ns : List Int) : Int := ((ns.filter fun e => decide (e = 0)).length : Nat)
theorem zc_snoc (ns : List Int) (e : Int) : zc (ns ++ [e]) = zc ns + if e = 0 then 1 else 0 := by
  unfold zc
  rw [List.filter_append]
  by_cases h : e = 0
  · rw [List.filter_cons_of_pos (by simpa using h), if_pos h]; simp
  · rw [List.filter_cons_of_neg (by simpa using h), if_neg h]; simp
def idStep (st : List Int × Int) (e : Int) : List Int × Int := if e = 0 then (st.1 ++ [st.2], st.2 + 1) else (st.1 ++ [st.1.getD ((st.1.length : Int) - e).toNat 0], st.2)
def idsD (ns : List Int) : List Int := (ns.foldl idStep ([], 0)).1
theorem ids_inv (ns : List Int) : (ns.foldl idStep ([], 0)).1.length = ns.length ∧ (ns.foldl idStep ([], 0)).2 = zc ns := by
  suffices h : ∀ (ns : List Int) (p : List Int × Int), (ns.foldl idStep p).1.length = p.1.length + ns.length ∧ (ns.foldl idStep p).2 = p.2 + zc ns by
    have := h ns ([], 0)
    simpa using this
  intro ns
  induction ns with
  | nil => intro p; exact ⟨rfl, by simp [zc]⟩
  | cons e ns ih =>
    intro p
    rw [List.foldl_cons]
    obtain ⟨h1, h2⟩ := ih (idStep p e)
    have z : zc (e :: ns) = (if e = 0 then 1 else 0) + zc ns := by
      unfold zc
      by_cases h : e = 0
      · rw [List.filter_cons_of_pos (by simpa using h), if_pos h, List.length_cons]; omega
      · rw [List.filter_cons_of_neg (by simpa using h), if_neg h]; omega
    rw [h1, h2, z]
    unfold idStep
    by_cases h : e = 0
    · rw [if_pos h, if_pos h]; simp; omega
    · rw [if_neg h, if_neg h]; simp; omega
theorem idsD_length (ns : List Int) : (idsD ns).length = ns.length := (ids_inv ns).1
theorem idsD_snoc (ns : List Int) (e : Int) : idsD (ns ++ [e]) = idsD ns ++ [if e = 0 then zc ns else (idsD ns).getD ((ns.length : Int) - e).toNat 0] := by
  unfold idsD
  rw [List.foldl_append, List.foldl_cons, List.foldl_nil]
  obtain ⟨h1, h2⟩ := ids_inv ns
  rw [idStep]
  by_cases h : e = 0
  · rw [if_pos h, if_pos h, h2]
  · rw [if_neg h, if_neg h, h1]
def Alike {α β : Type} (u : List α) (w : List β) : Prop := u.length = w.length ∧ ∀ i j, i < u.length → j < u.length → (u[i]? = u[j]? ↔ w[i]? = w[j]?)
theorem Alike.dAt {α β : Type} [DecidableEq α] [DecidableEq β] {u : List α} {w : List β} (h : Alike u w) {p : Nat} (hp : p < u.length) : dAt u p = dAt w p := by
  unfold Q.dAt
  have e : ∀ n, n ≤ p → lastIn (fun j => decide (u[j]? = u[p]?)) n = lastIn (fun j => decide (w[j]? = w[p]?)) n := by
    intro n
    induction n with
    | zero => intro _; rfl
    | succ n ih =>
      intro hn
      unfold lastIn
      rw [ih (by omega), decide_eq_decide.mpr (h.2 n p (by omega) hp)]
  rw [e p (Nat.le_refl _)]
theorem Alike.dist {α β : Type} [DecidableEq α] [DecidableEq β] {u : List α} {w : List β} (h : Alike u w) : dist u = dist w := by
  unfold Q.dist
  rw [← h.1]
  apply List.map_congr_left
  intro p hp
  exact h.dAt (List.mem_range.mp hp)
theorem Alike.refl {α : Type} (u : List α) : Alike u u := ⟨rfl, fun _ _ _ _ => Iff.rfl⟩
theorem Alike.symm {α β : Type} {u : List α} {w : List β} (h : Alike u w) : Alike w u := ⟨h.1.symm, fun i j hi hj => (h.2 i j (by rw [h.1]; exact hi) (by rw [h.1]; exact hj)).symm⟩
theorem Alike.trans {α β γ : Type} {u : List α} {w : List β} {z : List γ} (h : Alike u w) (h2 : Alike w z) : Alike u z := ⟨h.1.trans h2.1, fun i j hi hj => (h.2 i j hi hj).trans (h2.2 i j (by rw [← h.1]; exact hi) (by rw [← h.1]; exact hj))⟩
theorem Alike.pick {α β : Type} {u u2 : List α} {w w2 : List β} (h : Alike u w) (f : Nat → Nat) (hu : ∀ i, i < u2.length → f i < u.length ∧ u2[i]? = u[f i]?) (hw : ∀ i, i < w2.length → w2[i]? = w[f i]?) (hl : u2.length = w2.length) : Alike u2 w2 :=
  ⟨hl, fun i j hi hj => by
    rw [(hu i hi).2, (hu j hj).2, hw i (by omega), hw j (by omega)]
    exact h.2 _ _ (hu i hi).1 (hu j hj).1⟩
theorem erase_get {α : Type} (u : List α) (p i : Nat) (hp : p ≤ u.length) : (u.take p ++ u.drop (p + 1))[i]? = u[if i < p then i else i + 1]? := by
  by_cases h : i < p
  · rw [if_pos h, List.getElem?_append_left (by rw [List.length_take]; omega), List.getElem?_take_of_lt h]
  · rw [if_neg h, List.getElem?_append_right (by rw [List.length_take]; omega), List.length_take, List.getElem?_drop]
    congr 1; omega
theorem Alike.erase {α β : Type} {u : List α} {w : List β} (h : Alike u w) (p : Nat) (hp : p < u.length) : Alike (u.take p ++ u.drop (p + 1)) (w.take p ++ w.drop (p + 1)) := by
  have hw : p < w.length := by rw [← h.1]; exact hp
  have l1 : (u.take p ++ u.drop (p + 1)).length = u.length - 1 := by rw [List.length_append, List.length_take, List.length_drop]; omega
  have l2 : (w.take p ++ w.drop (p + 1)).length = w.length - 1 := by rw [List.length_append, List.length_take, List.length_drop]; omega
  refine h.pick (fun i => if i < p then i else i + 1) (fun i hi => ⟨?_, erase_get u p i (by omega)⟩) (fun i hi => erase_get w p i (by omega)) (by rw [l1, l2, h.1])
  rw [l1] at hi
  show (if i < p then i else i + 1) < _
  split <;> omega
theorem ids_get (w : List Int) : ∀ p, p < w.length → (idsD (dist w))[p]? = some (if dAt w p = 0 then zc ((dist w).take p) else (idsD (dist w)).getD (p - (dAt w p).toNat) 0) := by
  have pre : ∀ n, n ≤ w.length → idsD ((dist w).take n) = (idsD (dist w)).take n := by
    intro n hn
    have key : ∀ (b a : List Int), (idsD (a ++ b)).take a.length = idsD a := by
      intro b
      induction b with
      | nil => intro a; rw [List.append_nil, ← idsD_length a, List.take_length]
      | cons e b ih =>
        intro a
        have := ih (a ++ [e])
        rw [List.append_assoc, List.singleton_append] at this
        have h2 : ((idsD (a ++ e :: b)).take (a ++ [e]).length).take a.length = (idsD (a ++ e :: b)).take a.length := by
          rw [List.take_take]; congr 1; simp
        rw [← h2, this, idsD_snoc, List.take_append_of_le_length (by rw [idsD_length]; exact Nat.le_refl _), ← idsD_length a, List.take_length]
    have := key ((dist w).drop n) ((dist w).take n)
    rw [List.take_append_drop, List.length_take, dist_length, Nat.min_eq_left hn] at this
    exact this.symm
  intro p hp
  have h1 := pre (p + 1) hp
  have hg : (dist w)[p]? = some (dAt w p) := dist_get w hp
  rw [List.take_add_one, hg] at h1
  have h1 : idsD ((dist w).take p ++ [dAt w p]) = _ := h1
  rw [idsD_snoc] at h1
  have h2 := congrArg (fun l => l[p]?) h1
  have hl : (idsD ((dist w).take p)).length = p := by rw [idsD_length, List.length_take, dist_length]; omega
  rw [List.getElem?_append_right (by omega), hl, Nat.sub_self, List.getElem?_take_of_lt (Nat.lt_succ_self p)] at h2
  rw [← h2, pre p (by omega)]
  have hb := dAt_bounds w p
  by_cases h0 : dAt w p = 0
  · rw [if_pos h0, if_pos h0]; rfl
  · rw [if_neg h0, if_neg h0]
    show some _ = _
    congr 1
    rw [List.getD_eq_getElem?_getD, List.getD_eq_getElem?_getD, List.length_take, dist_length, Nat.min_eq_left (by omega)]
    have e : ((p : Int) - dAt w p).toNat = p - (dAt w p).toNat := by omega
    rw [e, List.getElem?_take_of_lt (by omega)]
theorem dAt_zero {α : Type} [DecidableEq α] {w : List α} {p : Nat} (h : dAt w p = 0) : ∀ m, m < p → w[m]? ≠ w[p]? := by
  intro m hm e
  unfold dAt at h
  split at h
  · rename_i j hj
    have := (lastIn_some.mp hj).1
    omega
  · rename_i hj
    have := lastIn_none.mp hj m hm
    rw [decide_eq_false_iff_not] at this
    exact this e
theorem zc_mono (ns : List Int) : ∀ {m n : Nat}, m ≤ n → zc (ns.take m) ≤ zc (ns.take n) := by
  intro m n h
  have : ns.take m = (ns.take n).take m := by rw [List.take_take, Nat.min_eq_left h]
  rw [this]
  unfold zc
  exact Int.ofNat_le.mpr (((List.take_sublist m (ns.take n)).filter _).length_le)
theorem ids_root (w : List Int) : ∀ p, p < w.length → ∃ q, q ≤ p ∧ dAt w q = 0 ∧ w[q]? = w[p]? ∧ (idsD (dist w))[p]? = some (zc ((dist w).take q)) := by
  intro p
  induction p using Nat.strongRecOn with
  | ind p ih =>
    intro hp
    have g := ids_get w p hp
    by_cases h0 : dAt w p = 0
    · rw [if_pos h0] at g
      exact ⟨p, Nat.le_refl _, h0, rfl, g⟩
    · rw [if_neg h0] at g
      have hb := dAt_bounds w p
      obtain ⟨j, hj, ej⟩ := dAt_pos (w := w) (p := p) (by omega)
      obtain ⟨j1, j2, _⟩ := lastIn_some.mp hj
      have e : p - (dAt w p).toNat = j := by omega
      obtain ⟨q, q1, q2, q3, q4⟩ := ih j j1 (by omega)
      refine ⟨q, by omega, q2, q3.trans (of_decide_eq_true j2), ?_⟩
      rw [g, e, List.getD_eq_getElem?_getD, q4]; rfl
theorem ids_alike (w : List Int) : Alike (idsD (dist w)) w := by
  refine ⟨by rw [idsD_length, dist_length], fun i j hi hj => ?_⟩
  rw [idsD_length, dist_length] at hi hj
  obtain ⟨q, q1, q2, q3, q4⟩ := ids_root w i hi
  obtain ⟨r, r1, r2, r3, r4⟩ := ids_root w j hj
  rw [q4, r4, ← q3, ← r3]
  have lt : ∀ a b, a < b → b < w.length → dAt w a = 0 → zc ((dist w).take a) < zc ((dist w).take b) := fun a b h1 h2 h3 => by
    have h4 := zc_mono (dist w) (m := a + 1) (n := b) h1
    rw [List.take_add_one, dist_get w (by omega), h3] at h4
    have h5 : zc ((dist w).take a ++ [0]) = zc ((dist w).take a) + 1 := by rw [zc_snoc, if_pos rfl]
    have h4 : zc ((dist w).take a ++ [0]) ≤ _ := h4
    omega
  constructor
  · intro e
    rcases Nat.lt_trichotomy q r with h | h | h
    · have := lt q r h (by omega) q2
      have e := Option.some.inj e
      omega
    · rw [h]
    · have := lt r q h (by omega) r2
      have e := Option.some.inj e
      omega
  · intro e
    rcases Nat.lt_trichotomy q r with h | h | h
    · exact absurd e (dAt_zero r2 q h)
    · rw [h]
    · exact absurd e.symm (dAt_zero q2 r h)
theorem dd_snoc (u : List Int) (x : Int) : dd (u ++ [x]) = if x ∈ dd u then dd u else dd u ++ [x] := by
  unfold dd
  rw [List.length_append, List.length_singleton, firstMet_succ]
  have e : ∀ n, n ≤ u.length → firstMet (fun i => (u ++ [x]).getD i 0) n = firstMet (fun i => u.getD i 0) n := by
    intro n
    induction n with
    | zero => intro _; rfl
    | succ n ih =>
      intro hn
      rw [firstMet_succ, firstMet_succ, ih (by omega)]
      congr 1
      rw [List.getD_eq_getElem?_getD, List.getD_eq_getElem?_getD, List.getElem?_append_left (by omega)]
  rw [e _ (Nat.le_refl _)]
  have e2 : (u ++ [x]).getD u.length 0 = x := by
    rw [List.getD_eq_getElem?_getD, List.getElem?_append_right (Nat.le_refl _)]; simp
  rw [e2]
  unfold step_dedup
  generalize firstMet (fun i => u.getD i 0) u.length = l
  by_cases h : x ∈ l
  · rw [if_pos h, if_pos (List.any_eq_true.mpr ⟨x, h, by simp⟩)]
  · rw [if_neg h, if_neg]
    intro z
    obtain ⟨y, hy, e⟩ := List.any_eq_true.mp z
    have : y = x := by simpa using e
    subst this; exact h hy
theorem dd_mem (u : List Int) (x : Int) : x ∈ dd u ↔ x ∈ u := by
  suffices h : ∀ n (u : List Int), u.length = n → (x ∈ dd u ↔ x ∈ u) from h _ u rfl
  intro n
  induction n with
  | zero => intro u hu; rw [List.eq_nil_of_length_eq_zero hu]; exact Iff.rfl
  | succ n ih =>
    intro u hu
    obtain ⟨v, y, rfl⟩ : ∃ v y, u = v ++ [y] := by
      refine ⟨u.dropLast, u.getLast (by intro e; rw [e] at hu; cases hu), ?_⟩
      rw [List.dropLast_concat_getLast]
    rw [dd_snoc, List.mem_append, List.mem_singleton]
    have := ih v (by simpa using hu)
    split
    · rename_i h
      rw [this]
      constructor
      · exact .inl
      · rintro (h2 | rfl)
        · exact h2
        · exact this.mp h
    · rw [List.mem_append, List.mem_singleton, this]
end Q
set_option Elab.async false
set_option linter.all false
set_option maxRecDepth 100000
set_option maxHeartbeats 2000000
set_option autoImplicit false
namespace Q
open PySem PySem.Spec PyProof.Rows L2
theorem comp_ints {g : TGq} {tt : TTq} {te : TEq} {vs : List Nat} {ns : List Int} {env : En} {k : List D → En → Prop} (p : Int → Bool) (f : Int → D)
    (hs : ∀ (n : Nat) (i : Int) (acc : List D) (X : List D → En → Prop), ns[n]? = some i → n < ns.length → acc.length ≤ n → (p i = true → X (acc ++ [f i]) env) → (p i = false → X acc env) → compStep g tt te vs acc X (.int i) env)
    (he : k ((ns.filter p).map f) env) : compQ g tt te vs (ns.map .int) [] env k := by
  refine comp_pure (fun d => p (toI d)) (fun d => f (toI d)) (fun n d acc X hd hl hX => ?_) ?_
  · obtain ⟨i, hi, rfl⟩ := ints_get hd
    refine hs n i acc X hi (List.getElem?_eq_some_iff.mp hi).1 hl (fun h => ?_) fun h => ?_
    · have hX : X (if p i = true then acc ++ [f i] else acc) env := hX
      rwa [if_pos h] at hX
    · have hX : X (if p i = true then acc ++ [f i] else acc) env := hX
      rwa [if_neg (by rw [h]; exact Bool.false_ne_true)] at hX
  · rw [List.filter_map, List.map_map]
    exact he
theorem Reps.reverse {K : Fg} {S : Hp} : ∀ {vs : List V} {ds : List D}, Reps K S vs ds → Reps K S vs.reverse ds.reverse
  | _, _, .nil => .nil
  | _, _, .cons h r => by
    rw [List.reverse_cons, List.reverse_cons]
    exact r.reverse.append (.cons h .nil)
section
variable {X : Cx} {g : Gd} {W : WX} {e : Expr} {te : TE} {qe : TEq} {pos : Pos}
end
end Q
set_option Elab.async false
set_option linter.all false
set_option maxRecDepth 100000
set_option maxHeartbeats 2000000
set_option autoImplicit false
namespace Q
open PySem PySem.Spec PyProof.Rows L2
theorem sIx_none {n d : Nat} : HT.sIx n d none = d := rfl
theorem cut_to {α : Type} {xs : List α} {p : Int} (h : 0 ≤ p) : cut xs none (some p) = xs.take p.toNat := by
  unfold cut
  rw [sIx_none, sIx_of h, List.drop_zero, Nat.sub_zero]
  rcases Nat.le_total p.toNat xs.length with h2 | h2
  · rw [Nat.min_eq_left h2]
  · rw [Nat.min_eq_right h2, List.take_length, List.take_of_length_le h2]
theorem int_take {ns : List Int} {n : Nat} : (ns.map D.int).take n = (ns.take n).map D.int := List.map_take.symm
theorem int_drop {ns : List Int} {n : Nat} : (ns.map D.int).drop n = (ns.drop n).map D.int := List.map_drop.symm
theorem int_dropLast {ns : List Int} : (ns.map D.int).dropLast = ns.dropLast.map D.int := by rw [List.dropLast_eq_take, List.dropLast_eq_take, List.length_map, int_take]
theorem int_rev {ns : List Int} : (ns.map D.int).reverse = ns.reverse.map D.int := List.map_reverse.symm
end Q
set_option Elab.async false
set_option linter.all false
set_option maxRecDepth 100000
set_option maxHeartbeats 2000000
set_option autoImplicit false
namespace Q
open PySem PySem.Spec PyProof.Rows L2
section
variable {X : Cx} {g : Gd} {W : WX} {pos : Pos}
end
end Q
set_option Elab.async false
set_option linter.all false
set_option maxRecDepth 100000
set_option maxHeartbeats 2000000
set_option autoImplicit false
namespace Q
open PySem PySem.Spec PyProof.Rows L2
theorem Ext.sub {P : Hp} {p : Addr} {o : HO} {A B : Hp} (z : Ext (upd P p o) A B) : Ext P A B := ⟨z.1, fun a h1 h2 => z.2 a h1 (by
  by_cases e : a = p
  · subst e; rw [upd_same]; simp
  · rw [upd_ne e]; exact h2)⟩
section
variable {X : Cx} {g : Gd} {W : WX} {a b e : Expr} {ta tb te : TE} {q1 q2 : TNq} {qe : TEq} {pos : Pos} {c : Cg}
def qToN (q : TEq) : TNq := fun env k x => q env (fun y env1 => ∃ d env2, sh1 env1 y = some (d, env2) ∧ k (.sh d) env2) x
theorem QE.toN (h : QE X g W e te qe) : QN X g W e te (qToN qe) := ⟨h.pe, fun N F P S b σ H env k x Q R hq hx hk => by
  refine h.sm N F P S b σ H env _ x _ R hq hx fun S1 H1 env1 v y R1 e1 r1 h1 => ?_
  obtain ⟨d, env2, hs, h2⟩ := h1
  obtain ⟨S2, R2, e2, r2⟩ := sh1_ok R1 r1 hs
  exact hk S2 H1 env2 v (.sh d) R2 (e1.trans e2) r2 (fun _ e => nomatch e) h2⟩
theorem e_toN {env : En} {k : Rv → En → Prop} {x : XQ} : qToN qe env k x = qe env (fun y env1 => sh1C env1 y fun d env2 => k (.sh d) env2) x := rfl
theorem sm_two {F P S H : Hp} {bb : Option Addr} {σ : L2.St} {env : En} {x : XQ} {Q : V → V → Hp → Prop} {k : Rv → Rv → En → Prop} (h1 : SmN c W ta q1) (h2 : SmN c W tb q2) (R : Rel c F P S bb σ H env) (hq : q1 env (fun r1 env1 => q2 env1 (fun r2 env2 => k r1 r2 env2) x) x) (hx : XOk c F P bb W S x)
    (hk : ∀ (S' H' : Hp) (env' : En) (v u : V) (r1 r2 : Rv), Rel c F P S' bb σ H' env' → Ext P S S' → RvOk c.K P S' bb H' v r1 → RvOk c.K P S' bb H' u r2 → (∀ d, r1 = .own d → ∀ (i : Nat) (e : D) (p : Addr), v = .ref p → σ[i]? = some (some (.ref p)) → env'[i]? ≠ some (.own e)) →
      (∀ d, r2 = .own d → ∀ (i : Nat) (e : D) (p : Addr), u = .ref p → σ[i]? = some (some (.ref p)) → env'[i]? ≠ some (.own e)) → (∀ d d', r1 = .own d → r2 = .own d' → v ≠ u) → k r1 r2 env' → Q v u H') :
    ta σ H fun v H1 => tb σ H1 fun u H2 => Q v u H2 := by
  refine h1 F P S bb σ H env _ x _ R hq hx fun S1 H1 env1 v r1 R1 e1 o1 n1 hq1 => ?_
  cases r1 with
  | sh d =>
    refine h2 F P S1 bb σ H1 env1 _ x _ R1 hq1 (hx.mono e1) fun S2 H2 env2 u r2 R2 e2 o2 n2 hk2 => ?_
    exact hk S2 H2 env2 v u (.sh d) r2 R2 (e1.trans e2) (Rep.mono e2.1 o1) o2 (fun _ e => nomatch e) n2 (fun _ _ e => nomatch e) hk2
  | own d =>
    obtain ⟨p, rfl, pP, pS, pb, ho⟩ := o1
    obtain ⟨o, hp⟩ := ho.some
    have fp : F p = none := by
      cases hf : F p with
      | none => rfl
      | some z => have := R1.fp p z hf; rw [pP] at this; cases this
    have G := R1.guard pP hp pS pb (fun i e h => n1 d rfl i e p rfl h)
    refine h2 F (upd P p o) S1 bb σ H1 env1 _ x _ G hq1 (fun nm pay env' S' σ' H' C dd R' e' => hx nm pay env' S' σ' H' C dd (R'.unguard pP R1.fp) (e1.trans e'.sub)) fun S2 H2 env2 u r2 R2 e2 o2 n2 hk2 => ?_
    have hp2 : H2 p = some o := R2.ph p o upd_same
    have pS2 : S2 p = none := e2.2 p pS (by rw [upd_same]; simp)
    have un : ∀ q, upd P p o q = none → q ≠ p ∧ P q = none := fun q hq => by
      by_cases e : q = p
      · subst e; rw [upd_same] at hq; cases hq
      · rw [upd_ne e] at hq; exact ⟨e, hq⟩
    refine hk S2 H2 env2 (.ref p) u (.own d) r2 (R2.unguard pP R1.fp) (e1.trans e2.sub) ⟨p, rfl, pP, pS2, pb, ho.mono e2.1 (hp2.trans hp.symm)⟩ ?_ (fun _ _ i e q hv h3 h4 => ?_) n2 (fun d1 d2 _ hr => ?_) hk2
    · cases r2 with
      | sh d2 => exact o2
      | own d2 =>
        obtain ⟨q, rfl, qP, qS, qb, hq⟩ := o2
        exact ⟨q, rfl, (un q qP).2, qS, qb, hq⟩
    · cases hv
      have := (R2.ownAt h3 h4).1
      rw [upd_same] at this; cases this
    · subst hr
      obtain ⟨q, rfl, qP, _⟩ := o2
      intro e
      cases e
      exact (un p qP).1 rfl
def qParN (i j : Nat) (q1 q2 : TNq) : TSq := fun DQ env => q1 env (fun r1 env1 => q2 env1 (fun r2 env2 => DQ.nx ((env2.set i (rvSl r1)).set j (rvSl r2))) DQ.ex) DQ.ex
theorem qs_parN {i j : Nat} {x y : Str} {px py pt : Pos} {kt k2 pt2} (hc : X.calm = true) (hN : X.N.Nodup) (hi : X.N[i]? = some x) (hj : X.N[j]? = some y) (hij : i ≠ j)
    (hx : X.env.scope.names.lookup x = some .local) (hy : X.env.scope.names.lookup y = some .local) (ha : QN X g W a ta q1) (hb : QN X g W b tb q2)
    (hw : swappedStores [.Tuple [.Name x px, .Name y py] kt pt] (.Tuple [a, b] k2 pt2) X.env = pure (some [x, y]))
    (hs : swapsWithSole [.Tuple [.Name x px, .Name y py] kt pt] (.Tuple [a, b] k2 pt2) pos.line X.env = pure false := by rfl)
    (hs1 : starEach [a, b] X.env = (false, eval a X.env) :: starEach [b] X.env := by rfl) (hs2 : starEach [b] X.env = (false, eval b X.env) :: starEach [] X.env := by rfl) :
    QS X g W (.Assign [.Tuple [.Name x px, .Name y py] kt pt] (.Tuple [a, b] k2 pt2) pos) (tPar i j (tCons ta (tCons tb tNil))) (qParN i j q1 q2) :=
  ⟨ps_par hc hN hi hj hij hx hy (pa_cons ha.pe (pa_cons hb.pe pa_nil hs2) hs1) hw hs, fun N F P S bb σ H env DQ D R hq k => by
    refine sm_two (ha.sm N) (hb.sm N) R hq k.ex fun S' H' env' v u r1 r2 R' e' o1 o2 n1 n2 ne hk => ?_
    refine ⟨v, u, rfl, ?_⟩
    refine k.nx S' _ H' _ ((R'.putRv o1 n1).putRv o2 fun d2 er l e2 q hu h3 h4 => ?_) e' hk
    rcases getElem?_set' h3 with ⟨rfl, h5, _⟩ | ⟨h5, h6⟩
    · have hvu : v = u := by rw [hu]; exact (Option.some.inj h5).symm
      rcases getElem?_set' h4 with ⟨_, h7, _⟩ | ⟨h7, _⟩
      · cases r1 with
        | sh d => cases h7
        | own d => exact ne d d2 rfl er hvu
      · exact h7 rfl
    · rw [List.getElem?_set_ne (fun z => h5 z.symm)] at h4
      exact n2 d2 er l e2 q hu h6 h4⟩
theorem e_parN {i j : Nat} {DQ : Ens} {env : En} : qParN i j q1 q2 DQ env = q1 env (fun r1 env1 => q2 env1 (fun r2 env2 => rvC r1 fun s1 => rvC r2 fun s2 => st env2 i s1 fun env3 => st env3 j s2 DQ.nx) DQ.ex) DQ.ex := rfl
end
end Q
set_option Elab.async false
set_option linter.all false
set_option maxRecDepth 100000
set_option maxHeartbeats 2000000
set_option autoImplicit false
namespace Q
open PySem PySem.Spec PyProof.Rows L2
theorem zc_le (ns : List Int) : zc ns ≤ ns.length := by
  unfold zc
  exact Int.ofNat_le.mpr (List.length_filter_le ..)
end Q
set_option Elab.async false
set_option linter.all false
set_option maxRecDepth 100000
set_option maxHeartbeats 2000000
set_option autoImplicit false
namespace Q
open PySem PySem.Spec PyProof.Rows L2
section
variable {X : Cx} {g : Gd} {W : WX} {o e f : Expr} {td te tf : TE} {qd qk qf : TEq} {c : Cg}
def getC (kvs : List (Key × D)) (key : Key) (a : D → Prop) (b : Prop) : Prop := match vD kvs key with
  | some e => a e
  | none => b
theorem getC_some {kvs : List (Key × D)} {key : Key} {a : D → Prop} {b : Prop} {e : D} (h : vD kvs key = some e) (q : a e) : getC kvs key a b := by unfold getC; rw [h]; exact q
theorem getC_none {kvs : List (Key × D)} {key : Key} {a : D → Prop} {b : Prop} (h : vD kvs key = none) (q : b) : getC kvs key a b := by unfold getC; rw [h]; exact q
def qDGetD (qd qk qf : TEq) : TEq := fun env k x => qd env (fun y env1 => rd env1 y (dX fun _ => True) ∧ qk env1 (fun z env2 => qf env2 (fun w env3 => rd env3 y (dX fun kvs => rd env3 z (dK fun key => getC kvs key (hold (fun e => k (.d e) env3) .mk) (hold (fun _ : Unit => k w env3) .mk ())))) x) x) x
theorem e_getD {env : En} {k : Va → En → Prop} {x : XQ} : qDGetD qd qk qf env k x = qd env (fun y env1 => rd env1 y (dX fun _ => True) ∧ qk env1 (fun z env2 => qf env2 (fun w env3 => rd env3 y (dX fun kvs => rd env3 z (dK fun key => getC kvs key (hold (fun e => k (.d e) env3) .mk) (hold (fun _ : Unit => k w env3) .mk ())))) x) x) x := rfl
theorem sm_getD (ha : Sm c W td qd) (hb : Sm c W te qk) (hf : Sm c W tf qf) : Sm c W (tDGet2 td te tf) (qDGetD qd qk qf) := by
  intro F P S b σ H env k x Q R hq hx hk
  refine ha F P S b σ H env _ x _ R hq hx fun S1 H1 env1 v y R1 e1 r1 h1 => ?_
  obtain ⟨⟨d0, hd0, h0⟩, h1⟩ := h1
  cases d0 <;> first | exact False.elim h0 | skip
  have a0 := R1.read r1 hd0
  cases a0 with
  | dct hr0 _ =>
  refine ⟨_, rfl, .inl ⟨_, hr0⟩, ?_⟩
  refine hb F P S1 b σ H1 env1 _ x _ R1 h1 (hx.mono e1) fun S2 H2 env2 u z R2 e2 r2 h2 => ?_
  refine hf F P S2 b σ H2 env2 _ x _ R2 h2 (hx.mono (e1.trans e2)) fun S3 H3 env3 u3 z3 R3 e3 r3 h3 => ?_
  obtain ⟨d, hd, h3⟩ := h3
  cases d <;> first | exact False.elim h3 | skip
  rename_i kvs
  have h3 : rd env3 z (dK fun key => getC kvs key (hold (fun e => k (.d e) env3) .mk) (hold (fun _ : Unit => k z3 env3) .mk ())) := h3
  rw [← rd_K] at h3
  obtain ⟨key, hk2, h3⟩ := h3
  obtain ⟨dz, hz, hkd⟩ := res_bind hk2
  have a1 := R3.read (r1.mono (e2.1.trans e3.1)) hd
  have a2 := R3.read (r2.mono e3.1) hz
  cases a1 with
  | dct hr r =>
    refine ⟨_, .inl ⟨_, key, hr, keyV a2 hkd, rfl⟩, ?_⟩
    unfold getC at h3
    rcases r.val key with ⟨z1, z2⟩ | ⟨v', d', z1, z2, rv⟩
    · rw [z2] at h3
      rw [z1]
      exact hk S3 H3 env3 u3 z3 R3 (e1.trans (e2.trans e3)) r3 h3
    · rw [z2] at h3
      rw [z1]
      exact hk S3 H3 env3 v' (.d d') R3 (e1.trans (e2.trans e3)) rv h3
theorem q_getD {apos cpos : Pos} (hu : X.A.units + 1 < cLine) (ha : QE X g W o td qd) (hb : QE X g W e te qk) (hf : QE X g W f tf qf) (m : M2 X o "get" apos e f cpos) : QE X g W (.Call (.Attribute o "get" apos) [e, f] [] cpos) (tDGet2 td te tf) (qDGetD qd qk qf) :=
  ⟨pe_dget2 hu ha.pe hb.pe hf.pe m, fun N => sm_getD (ha.sm N) (hb.sm N) (hf.sm N)⟩
end
end Q
set_option Elab.async false
set_option linter.all false
set_option maxRecDepth 100000
set_option maxHeartbeats 2000000
set_option autoImplicit false
namespace Q
open PySem PySem.Spec PyProof.Rows L2
def upto (n : Nat) : List Int := (List.range n).map fun i : Nat => (i : Int)
theorem ranged_upto (n : Nat) : ranged 0 n = (upto n).map .int := by
  unfold ranged upto
  rw [List.map_map]
  apply List.map_congr_left
  intro i _
  show D.int (0 + (i : Int)) = D.int (i : Int)
  rw [Int.zero_add]
theorem upto_length (n : Nat) : (upto n).length = n := by unfold upto; simp
theorem upto_get {n i : Nat} {v : Int} (h : (upto n)[i]? = some v) : v = (i : Nat) ∧ i < n := by
  unfold upto at h
  rw [List.getElem?_map] at h
  rcases Nat.lt_or_ge i n with hl | hl
  · rw [List.getElem?_range hl] at h
    cases h; exact ⟨rfl, hl⟩
  · rw [List.getElem?_eq_none (by simpa using hl)] at h; cases h
end Q
set_option Elab.async false
set_option linter.all false
set_option maxRecDepth 100000
set_option maxHeartbeats 2000000
set_option autoImplicit false
namespace Q
open PySem PySem.Spec PyProof.Rows L2
section
variable {c : Cg} {X : Cx} {g : Gd} {W : WX} {o e a b : Expr} {es : List Expr} {t to te ta tb : TE} {tl : TA} {q qo qe qa qb : TEq} {ql : TAq} {pos p2 : Pos}
theorem units65 {k : Nat} {A : Around} (r : Room k A) : A.units + 65 < cLine := by have := r.un; omega
end
section
variable {K : Fg} {k : D → Prop} {kn : Rv → Prop}
def flatD (d : D) : Bool := (scalar d).isSome
theorem flatV_at {S H : Hp} {v : V} {d : D} (h : At K S H v d) (f : flatD d = true) : v = sV d ∧ flatV v = true := by
  cases h <;> first | exact ⟨rfl, rfl⟩ | cases f
theorem Rep.flat1 {S : Hp} {v : V} {d : D} (h : Rep K S v d) (f : flatD d = true) : v = sV d ∧ flatV v = true := by
  cases h <;> first | exact ⟨rfl, rfl⟩ | cases f
theorem Reps.flatAll {S : Hp} : ∀ {vs : List V} {ds : List D}, Reps K S vs ds → ds.all flatD = true → vs = ds.map sV ∧ vs.all flatV = true
  | _, _, .nil, _ => ⟨rfl, rfl⟩
  | v :: vs, d :: ds, .cons h r, f => by
    rw [List.all_cons, Bool.and_eq_true] at f
    obtain ⟨h1, h2⟩ := Reps.flatAll r f.2
    obtain ⟨h3, h4⟩ := Rep.flat1 h f.1
    rw [List.all_cons, h4, h2, List.map_cons, ← h3, ← h1]
    exact ⟨rfl, rfl⟩
def eqD (y x : D) : Bool := eqV (sV y) (sV x)
def inD (x : D) (ds : List D) : Bool := ds.any fun y => eqD y x
theorem inV_sV (x : D) (ds : List D) : inV (sV x) (ds.map sV) = inD x ds := by
  unfold inV inD; rw [List.any_map]; rfl
def fInB (neg : Bool) (d e : D) (k : D → Prop) : Prop :=
  (∃ ds, (e = .lst ds ∨ e = .tup ds) ∧ flatD d = true ∧ ds.all flatD = true ∧ k (.bl (if neg then !inD d ds else inD d ds))) ∨
  (∃ ds, e = .lst ds ∧ (flatD d && ds.all flatD) = false ∧ SeqAt.shaped (toP d) = true ∧ SeqAt.shaped (toP (.lst ds)) = true ∧ k (.bl (if neg then !(toPs ds).any (fun z => PyData.eqv z (toP d)) else (toPs ds).any fun z => PyData.eqv z (toP d)))) ∨
  (∃ ch y, d = .str ⟨#[ch]⟩ ∧ e = .str y ∧ k (.bl (if neg then !decide (ch ∈ y.cps.toList) else decide (ch ∈ y.cps.toList))))
def fIn := fInB false
def rInQ (K : Fg) : R2 := fun x y H Q => rIn K false x y H Q ∨ (rInD K x y H Q ∨ (∃ (c : Nat) (z : Str), x = .str ⟨#[c]⟩ ∧ y = .str z ∧ Q (.bl (decide (c ∈ z.cps.toList))) H))
def rNotInQ (K : Fg) : R2 := fun x y H Q => rIn K true x y H Q ∨ (rNotInD K x y H Q ∨ (∃ (c : Nat) (z : Str), x = .str ⟨#[c]⟩ ∧ y = .str z ∧ Q (.bl (!decide (c ∈ z.cps.toList))) H))
theorem or_inQ {X : Cx} (hu : X.A.units + 65 < cLine) : OpR X (compareOp .In) (rInQ X.K) := OpR.or op_in_seq (OpR.or (op_inD hu) op_in_sign)
theorem dp_list {S H : Hp} {v : V} {ds : List D} (e : Same S H) (h : At K S H v (.lst ds)) (hc : SeqAt.shaped (toP (.lst ds)) = true) : Dp K H v (.list (toPs ds)) := by
  have := dp_at e h (shaped_lay hc)
  unfold toP at this
  exact this
theorem At.seqOf {S H : Hp} {v : V} {ds : List D} (h : At K S H v (.lst ds) ∨ At K S H v (.tup ds)) : ∃ p xs, v = .ref p ∧ (SqL K H p xs ∨ SqT K H p xs) ∧ Reps K S xs ds := by
  rcases h with h | h
  · cases h with
    | lst h r => exact ⟨_, _, rfl, .inl (SqL.of h), r⟩
  · cases h with
    | tup h r => exact ⟨_, _, rfl, .inr (SqT.of h), r⟩
theorem o_inB (neg : Bool) : Op2 K (if neg then rNotInQ K else rInQ K) (fInB neg) := by
  intro S H v u d e k Q s a b hf hk
  rcases hf with ⟨ds, he, h1, h2, h3⟩ | ⟨ds, rfl, _, h1, h2, h3⟩ | ⟨ch, y, rfl, rfl, h⟩
  · obtain ⟨p, xs, hu, hs, r⟩ := At.seqOf (S := S) (H := H) (v := u) (ds := ds) (by
      rcases he with rfl | rfl
      · exact .inl b
      · exact .inr b)
    obtain ⟨f1, f2⟩ := flatV_at a h1
    obtain ⟨f3, f4⟩ := Reps.flatAll r h2
    have e1 : inV v xs = inD d ds := by rw [f1, f3, inV_sV]
    cases neg
    · exact .inl ⟨p, xs, hu, hs, f2, f4, hk _ _ (.bl _) (by simpa [e1] using h3)⟩
    · exact .inl ⟨p, xs, hu, hs, f2, f4, hk _ _ (.bl _) (by simpa [e1] using h3)⟩
  · have d2 := dp_list s b h2
    unfold toP at h2
    cases neg
    · exact .inr (.inl ⟨_, _, dp_at s a (shaped_lay h1), d2, h1, h2, hk _ _ (.bl _) h3⟩)
    · exact .inr (.inl ⟨_, _, dp_at s a (shaped_lay h1), d2, h1, h2, hk _ _ (.bl _) h3⟩)
  · cases a
    cases b
    cases neg
    · exact .inr (.inr ⟨ch, y, rfl, rfl, hk _ _ (.bl _) h⟩)
    · exact .inr (.inr ⟨ch, y, rfl, rfl, hk _ _ (.bl _) h⟩)
theorem o_in : Op2 K (rInQ K) fIn := o_inB false
theorem flat_ints (ns : List Int) : (ns.map D.int).all flatD = true := by rw [List.all_map]; simp [flatD, scalar, Function.comp_def]
theorem flat_strs (ns : List Str) : (ns.map D.str).all flatD = true := by rw [List.all_map]; simp [flatD, scalar, Function.comp_def]
theorem inD_ints (i : Int) (ns : List Int) : inD (.int i) (ns.map .int) = decide (i ∈ ns) := by
  unfold inD
  rw [List.any_map]
  show ns.any (fun y => y == i) = _
  rw [Bool.eq_iff_iff, List.any_eq_true, decide_eq_true_eq]
  exact ⟨fun ⟨x, h1, h2⟩ => by rw [← eq_of_beq h2]; exact h1, fun h => ⟨i, h, by simp⟩⟩
theorem inD_strs (i : Str) (ns : List Str) : inD (.str i) (ns.map .str) = decide (i ∈ ns) := by
  unfold inD
  rw [List.any_map]
  show ns.any (fun y => y == i) = _
  rw [Bool.eq_iff_iff, List.any_eq_true, decide_eq_true_eq]
  exact ⟨fun ⟨x, h1, h2⟩ => by rw [← eq_of_beq h2]; exact h1, fun h => ⟨i, h, by simp⟩⟩
theorem fInB_l {neg : Bool} {d : D} {ds : List D} (h1 : flatD d = true) (h2 : ds.all flatD = true) : fInB neg d (.lst ds) k = k (.bl (if neg then !inD d ds else inD d ds)) := by
  apply propext
  constructor
  · rintro (⟨es, h | h, _, _, q⟩ | ⟨es, h, h3, _⟩ | ⟨_, _, _, h, _⟩)
    · cases h; exact q
    · cases h
    · cases h; rw [h1, h2] at h3; cases h3
    · cases h
  · exact fun q => .inl ⟨ds, .inl rfl, h1, h2, q⟩
theorem fInB_t {neg : Bool} {d : D} {ds : List D} (h1 : flatD d = true) (h2 : ds.all flatD = true) : fInB neg d (.tup ds) k = k (.bl (if neg then !inD d ds else inD d ds)) := by
  apply propext
  constructor
  · rintro (⟨es, h | h, _, _, q⟩ | ⟨es, h, h3, _⟩ | ⟨_, _, _, h, _⟩)
    · cases h
    · cases h; exact q
    · cases h
    · cases h
  · exact fun q => .inl ⟨ds, .inr rfl, h1, h2, q⟩
theorem f_inC {ch : Nat} {y : Str} : fIn (.str ⟨#[ch]⟩) (.str y) k = k (.bl (decide (ch ∈ y.cps.toList))) := by
  apply propext
  constructor
  · rintro (⟨es, h | h, _, _, q⟩ | ⟨es, h, h3, _⟩ | ⟨c2, y2, h1, h, q⟩)
    · cases h
    · cases h
    · cases h
    · cases h; cases h1; exact q
  · exact fun q => .inr (.inr ⟨_, _, rfl, rfl, q⟩)
theorem f_inI {i : Int} {ns : List Int} : fIn (.int i) (.lst (ns.map .int)) k = k (.bl (decide (i ∈ ns))) := by
  unfold fIn; rw [fInB_l rfl (flat_ints ns), inD_ints]; rfl
theorem f_inIT {i : Int} {ns : List Int} : fIn (.int i) (.tup (ns.map .int)) k = k (.bl (decide (i ∈ ns))) := by
  unfold fIn; rw [fInB_t rfl (flat_ints ns), inD_ints]; rfl
theorem f_inS {i : Str} {ns : List Str} : fIn (.str i) (.lst (ns.map .str)) k = k (.bl (decide (i ∈ ns))) := by
  unfold fIn; rw [fInB_l rfl (flat_strs ns), inD_strs]; rfl
end
end Q
set_option Elab.async false
set_option linter.all false
set_option maxRecDepth 100000
set_option maxHeartbeats 2000000
set_option autoImplicit false
namespace Q
open PySem PySem.Spec PyProof.Rows L2
inductive Owns (K : Fg) (P S : Hp) (b : Option Addr) (σ : L2.St) (env : En) (H : Hp) : List V → List D → Prop
  | nil : Owns K P S b σ env H [] []
  | cons {p : Addr} {d : D} {vs : List V} {ds : List D} : P p = none → S p = none → b ≠ some p → OwnAt K S H p d → (∀ (i : Nat) (e : D), σ[i]? = some (some (.ref p)) → env[i]? ≠ some (.own e)) → Owns K P S b σ env H vs ds → Owns K P S b σ env H (.ref p :: vs) (d :: ds)
abbrev TNsq := En → (List D → En → Prop) → XQ → Prop
section
variable {X : Cx} {g : Gd} {W : WX} {a b e : Expr} {es : List Expr} {sts rest : List Stmt} {ta tb te : TE} {tl : TA} {t u tr : TS} {tt : TT} {q1 q2 : TNq} {ql : TNsq} {qe : TEq} {qt : TTq} {qr : TSq} {pos pos2 pos3 pos4 pos5 : Pos} {c : Cg}
structure BoxAt (c : Cg) (P S : Hp) (b : Option Addr) (σ : L2.St) (env : En) (H : Hp) (i : Nat) (l : Addr) (vs : List V) (ds : List D) : Prop where
  si : σ[i]? = some (some (.ref l))
  ni : ∀ s, env[i]? = some s → s = .no
  hl : H l = some (.lst vs)
  own : Owns c.K P S b σ env H vs ds
def pk : Sl → Sl
  | .own d => .sh d
  | .bor d => .sh d
  | .bag _ => .no
  | s => s
theorem Rel.frame {F P S H H' : Hp} {b : Option Addr} {σ : L2.St} {env : En} (R : Rel c F P S b σ H env) (h : Same H H') : Rel c F P S b σ H' env :=
  R.to (Same.refl _) (R.ph.trans h) (R.sh.trans h) (fun i p d h1 h2 => by
    obtain ⟨_, h4, _, h6⟩ := R.ownAt h1 h2
    obtain ⟨o, h7⟩ := h6.some
    exact ⟨h4, (h _ _ h7).trans h7.symm⟩) fun p hp => by
    obtain ⟨_, h2, h3⟩ := R.bg p hp
    obtain ⟨o, h7⟩ := h3.some
    exact ⟨h2, h3.mono (Same.refl _) ((h _ _ h7).trans h7.symm) (Nat.le_refl _)⟩
theorem Owns.frame {K : Fg} {P S H H' : Hp} {b : Option Addr} {σ : L2.St} {env : En} {vs : List V} {ds : List D} (h : Owns K P S b σ env H vs ds) (e : Same H H') : Owns K P S b σ env H' vs ds := by
  induction h with
  | nil => exact .nil
  | cons z1 z2 z3 z4 z5 _ ih =>
    obtain ⟨o, h7⟩ := z4.some
    exact .cons z1 z2 z3 (z4.mono (Same.refl _) ((e _ _ h7).trans h7.symm)) z5 ih
theorem BoxAt.frame {P S H H' : Hp} {b : Option Addr} {σ : L2.St} {env : En} {i : Nat} {l : Addr} {vs : List V} {ds : List D} (B : BoxAt c P S b σ env H i l vs ds) (e : Same H H') : BoxAt c P S b σ env H' i l vs ds :=
  ⟨B.si, B.ni, e _ _ B.hl, B.own.frame e⟩

def pkC (env : En) (f : En → Prop) : Prop := f (env.map pk)
theorem pkC0 {f : En → Prop} : pkC [] f = f [] := rfl
theorem pkC_sh {d : D} {l : En} {f : En → Prop} : pkC (.sh d :: l) f = pkC l fun r => f (.sh d :: r) := rfl
theorem pkC_own {d : D} {l : En} {f : En → Prop} : pkC (.own d :: l) f = pkC l fun r => f (.sh d :: r) := rfl
theorem pkC_bor {d : D} {l : En} {f : En → Prop} : pkC (.bor d :: l) f = pkC l fun r => f (.sh d :: r) := rfl
theorem pkC_bag {n : Nat} {l : En} {f : En → Prop} : pkC (.bag n :: l) f = pkC l fun r => f (.no :: r) := rfl
theorem pkC_no {l : En} {f : En → Prop} : pkC (.no :: l) f = pkC l fun r => f (.no :: r) := rfl
theorem pkV {s : Sl} {l : En} {f : En → Prop} : pkC (s :: l) f = pkC l fun r => f (pk s :: r) := rfl
end
end Q
set_option Elab.async false
set_option linter.all false
set_option maxRecDepth 100000
set_option maxHeartbeats 2000000
set_option autoImplicit false
namespace Q
open PySem PySem.Spec PyProof.Rows L2
section
variable {α : Type} [DecidableEq α]
def nxt (w : List α) : List Int := (dist w.reverse).reverse
theorem nxt_length (w : List α) : (nxt w).length = w.length := by unfold nxt; rw [List.length_reverse, dist_length, List.length_reverse]
end
theorem Alike.reverse {α β : Type} {u : List α} {w : List β} (h : Alike u w) : Alike u.reverse w.reverse :=
  h.pick (fun i => u.length - 1 - i) (fun i hi => by rw [List.length_reverse] at hi; exact ⟨by omega, List.getElem?_reverse hi⟩) (fun i hi => by rw [List.length_reverse, ← h.1] at hi; rw [List.getElem?_reverse (by rw [← h.1]; exact hi), h.1]) (by rw [List.length_reverse, List.length_reverse, h.1])
end Q
set_option Elab.async false
set_option linter.all false
set_option maxRecDepth 100000
set_option maxHeartbeats 2000000
set_option autoImplicit false
namespace Q
open PySem PySem.Spec PyProof.Rows L2
structure Shw (d : D) (k n : Nat) : Prop where
  plain : plainD d = true
  able : (toP d).showable = true
  deep : (toP d).depth ≤ k
  small : (toP d).shown.length ≤ n
structure Shws (ds : List D) (k n : Nat) : Prop where
  plain : plainDs ds = true
  able : PyData.showableAll (toPs ds) = true
  deep : PyData.depthAll (toPs ds) ≤ k
  small : ((PyData.shownAll (toPs ds)).map (·.length)).sum + 2 * (PyData.shownAll (toPs ds)).length ≤ n
theorem Shw.ok {d : D} {k n : Nat} (h : Shw d k n) (hk : k ≤ 60 := by decide) (hn : n ≤ 10000000 := by omega) : ShowOk d := ⟨h.plain, h.able, Nat.le_trans h.deep hk, Nat.le_trans h.small hn⟩
theorem Shw.mono {d : D} {k n k' n' : Nat} (h : Shw d k n) (hk : k ≤ k') (hn : n ≤ n') : Shw d k' n' := ⟨h.plain, h.able, Nat.le_trans h.deep hk, Nat.le_trans h.small hn⟩
theorem Shws.mono {d : List D} {k n k' n' : Nat} (h : Shws d k n) (hk : k ≤ k') (hn : n ≤ n') : Shws d k' n' := ⟨h.plain, h.able, Nat.le_trans h.deep hk, Nat.le_trans h.small hn⟩
theorem log2_lt' {n m : Nat} (h : n < 2 ^ m) (h0 : 0 < m) : n.log2 < m := by
  by_cases e : n = 0
  · rw [e, show Nat.log2 0 = 0 by decide +kernel]; exact h0
  · exact (Nat.log2_lt e).mpr h
theorem shw_int {i : Int} (h : i.natAbs < 10 ^ 12) : Shw (.int i) 0 13 := by
  refine ⟨rfl, ?_, by simp [toP, PyData.depth], ?_⟩
  · simp only [toP, PyData.showable]
    exact decide_eq_true (Nat.lt_of_lt_of_le (log2_lt' (m := 40) (Nat.lt_of_lt_of_le h (by decide)) (by decide)) (by decide))
  · simp only [toP]; exact PyData.shown_int_le h
theorem shws_nil {k : Nat} : Shws [] k 0 := ⟨rfl, rfl, Nat.zero_le _, Nat.le_refl _⟩
theorem shws_cons {d : D} {ds : List D} {k n m : Nat} (h : Shw d k n) (r : Shws ds k m) : Shws (d :: ds) k (n + 2 + m) := by
  refine ⟨?_, ?_, ?_, ?_⟩
  · show (plainD d && plainDs ds) = true
    rw [h.plain, r.plain]; rfl
  · show (PyData.showable (toP d) && PyData.showableAll (toPs ds)) = true
    rw [h.able, r.able]; rfl
  · have h1 := h.deep
    have h2 := r.deep
    show max (toP d).depth (PyData.depthAll (toPs ds)) ≤ k
    omega
  · have h1 := h.small
    have h2 := r.small
    show ((toP d).shown.length + ((PyData.shownAll (toPs ds)).map (·.length)).sum) + 2 * ((PyData.shownAll (toPs ds)).length + 1) ≤ _
    omega
theorem shw_lst {ds : List D} {k n : Nat} (h : Shws ds k n) : Shw (.lst ds) (k + 1) (n + 3) := by
  refine ⟨h.plain, ?_, ?_, ?_⟩
  · simp only [toP]; exact h.able
  · simp only [toP, PyData.depth]
    have := h.deep; omega
  · simp only [toP]
    have h1 := listText_len_le (PyData.shownAll (toPs ds))
    have h2 := h.small
    show (listText _).length ≤ _
    omega
theorem shw_tup {ds : List D} {k n : Nat} (h : Shws ds k n) : Shw (.tup ds) (k + 1) (n + 3) := by
  refine ⟨h.plain, ?_, ?_, ?_⟩
  · simp only [toP]; exact h.able
  · simp only [toP, PyData.depth]
    have := h.deep; omega
  · simp only [toP]
    have h1 := tupleText_len_le (PyData.shownAll (toPs ds))
    have h2 := h.small
    show (tupleText _).length ≤ _
    omega
section
variable {a b c d e : D} {r : List D} {k : D → Prop}
theorem f_ix0 : fIx (.lst (a :: r)) (.int 0) k = k a := by
  rw [f_ixL, show atI (a :: r) 0 = some a by rw [atI_pos (by decide)]; rfl]; exact ex_some
theorem f_ix1 : fIx (.lst (a :: b :: r)) (.int 1) k = k b := by
  rw [f_ixL, show atI (a :: b :: r) 1 = some b by rw [atI_pos (by decide)]; rfl]; exact ex_some
theorem f_ix2 : fIx (.lst (a :: b :: c :: r)) (.int 2) k = k c := by
  rw [f_ixL, show atI (a :: b :: c :: r) 2 = some c by rw [atI_pos (by decide)]; rfl]; exact ex_some
theorem f_ix3 : fIx (.lst (a :: b :: c :: d :: r)) (.int 3) k = k d := by
  rw [f_ixL, show atI (a :: b :: c :: d :: r) 3 = some d by rw [atI_pos (by decide)]; rfl]; exact ex_some
theorem f_ix4 : fIx (.lst (a :: b :: c :: d :: e :: r)) (.int 4) k = k e := by
  rw [f_ixL, show atI (a :: b :: c :: d :: e :: r) 4 = some e by rw [atI_pos (by decide)]; rfl]; exact ex_some
theorem f_ixT0 : fIx (.tup (a :: r)) (.int 0) k = k a := by
  rw [f_ixT, show atI (a :: r) 0 = some a by rw [atI_pos (by decide)]; rfl]; exact ex_some
theorem f_ixT1 : fIx (.tup (a :: b :: r)) (.int 1) k = k b := by
  rw [f_ixT, show atI (a :: b :: r) 1 = some b by rw [atI_pos (by decide)]; rfl]; exact ex_some
theorem f_ixT2 : fIx (.tup (a :: b :: c :: r)) (.int 2) k = k c := by
  rw [f_ixT, show atI (a :: b :: c :: r) 2 = some c by rw [atI_pos (by decide)]; rfl]; exact ex_some
theorem f_ixT3 : fIx (.tup (a :: b :: c :: d :: r)) (.int 3) k = k d := by
  rw [f_ixT, show atI (a :: b :: c :: d :: r) 3 = some d by rw [atI_pos (by decide)]; rfl]; exact ex_some
theorem f_ixT4 : fIx (.tup (a :: b :: c :: d :: e :: r)) (.int 4) k = k e := by
  rw [f_ixT, show atI (a :: b :: c :: d :: e :: r) 4 = some e by rw [atI_pos (by decide)]; rfl]; exact ex_some
end
theorem ints_inj {a b : List Int} : (a.map D.int = b.map D.int) = (a = b) := propext (List.map_inj_right fun _ _ h => D.int.inj h)
theorem strs_inj {a b : List Str} : (a.map D.str = b.map D.str) = (a = b) := propext (List.map_inj_right fun _ _ h => D.str.inj h)
end Q
set_option Elab.async false
set_option linter.all false
set_option maxRecDepth 100000
set_option maxHeartbeats 2000000
set_option autoImplicit false
namespace Q
open PySem PySem.Spec PyProof.Rows L2
theorem e_loopC {g : TGq} {s : TSq} {DQ : Ens} {d : D} {ds : List D} {env : En} : loopQ g s DQ (d :: ds) env = g d env fun env1 => s { DQ with nx := loopQ g s DQ ds, ct := loopQ g s DQ ds, bk := DQ.nx } env1 := rfl
theorem e_loopN {g : TGq} {s : TSq} {DQ : Ens} {env : En} : loopQ g s DQ [] env = DQ.nx env := rfl
theorem e_step {g : TGq} {tt : TTq} {te : TEq} {vs : List Nat} {acc : List D} {X : List D → En → Prop} {d : D} {env : En} : compStep g tt te vs acc X d env = g d env fun env1 => tt env1 (fun y env2 => cIf y (hold (fun _ => te env2 (fun y env3 => sh1C env3 y fun e env4 => acc.length < 10000000 ∧ wp env4 vs (X (acc ++ [e]))) (fun _ _ _ => False)) .mk) (hold (fun _ => wp env2 vs (X acc)) .mk)) fun _ _ _ => False := rfl
theorem e_exI {u : List Int} {P : List Int → Prop} : (∃ ns : List Int, u.map D.int = ns.map D.int ∧ P ns) = P u := propext ⟨fun ⟨ns, h, q⟩ => (by rw [ints_inj] at h; subst h; exact q), fun q => ⟨u, rfl, q⟩⟩
theorem in_ok {lo hi i : Int} (h1 : lo ≤ i) (h2 : i ≤ hi) : intIn lo (.int hi) (.int i) = true := by simp [intIn, leO, h1, h2]
theorem e_toI {i : Int} : toI (.int i) = i := rfl
theorem comp_mapI {g : TGq} {tt : TTq} {te : TEq} {vs : List Nat} {ns : List Int} {env : En} {k : List D → En → Prop} (f : Int → Int)
    (hs : ∀ (n : Nat) (i : Int) (acc : List D) (X : List D → En → Prop), ns[n]? = some i → n < ns.length → acc.length ≤ n → X (acc ++ [.int (f i)]) env → compStep g tt te vs acc X (.int i) env)
    (he : k ((ns.map f).map .int) env) : compQ g tt te vs (ns.map .int) [] env k := by
  refine comp_ints (fun _ => true) (fun i => .int (f i)) (fun n i acc X h1 h2 h3 h4 _ => hs n i acc X h1 h2 h3 (h4 rfl)) ?_
  rw [filter_tt]
  rw [List.map_map] at he
  exact he
theorem Alike.of {α β : Type} {u : List α} {w : List β} (hl : u.length = w.length) (h : ∀ (i j : Nat) (x y : α) (x' y' : β), u[i]? = some x → u[j]? = some y → w[i]? = some x' → w[j]? = some y' → (x = y ↔ x' = y')) : Alike u w := by
  refine ⟨hl, fun i j hi hj => ?_⟩
  have e1 := List.getElem?_eq_getElem hi
  have e2 := List.getElem?_eq_getElem hj
  have e3 := List.getElem?_eq_getElem (l := w) (i := i) (by omega)
  have e4 := List.getElem?_eq_getElem (l := w) (i := j) (by omega)
  rw [e1, e2, e3, e4, Option.some.injEq, Option.some.injEq]
  exact h i j _ _ _ _ e1 e2 e3 e4
theorem Alike.eqv {α β : Type} {u : List α} {w : List β} (h : Alike u w) {i j : Nat} {x y : α} {x' y' : β} (h1 : u[i]? = some x) (h2 : u[j]? = some y) (h3 : w[i]? = some x') (h4 : w[j]? = some y') : x = y ↔ x' = y' := by
  have := h.2 i j (List.getElem?_eq_some_iff.mp h1).1 (List.getElem?_eq_some_iff.mp h2).1
  rwa [h1, h2, h3, h4, Option.some.injEq, Option.some.injEq] at this
end Q
set_option Elab.async false
set_option linter.all false
set_option maxRecDepth 100000
set_option maxHeartbeats 2000000
set_option autoImplicit false
namespace Q
open PySem PySem.Spec PyProof.Rows L2
section
variable {α β : Type} [DecidableEq α] [DecidableEq β]
theorem snoc_ind {P : List α → Prop} (h0 : P []) (hs : ∀ u x, P u → P (u ++ [x])) (u : List α) : P u := by
  have : ∀ n, ∀ u : List α, u.length = n → P u := by
    intro n
    induction n with
    | zero => intro u h; rw [List.eq_nil_of_length_eq_zero h]; exact h0
    | succ n ih =>
      intro u h
      have hne : u ≠ [] := fun e => by rw [e] at h; cases h
      rw [← List.dropLast_concat_getLast hne]
      exact hs _ _ (ih _ (by rw [List.length_dropLast]; omega))
  exact this _ u rfl
end
end Q
set_option Elab.async false
set_option linter.all false
set_option maxRecDepth 100000
set_option maxHeartbeats 2000000
set_option autoImplicit false
namespace Q
open PySem PySem.Spec PyProof.Rows L2
theorem dd_nodup' (u : List Int) : (dd u).Nodup := by
  induction u using snoc_ind with
  | h0 => decide
  | hs u x ih =>
    rw [dd_snoc]
    by_cases h : x ∈ dd u
    · rw [if_pos h]; exact ih
    · rw [if_neg h]
      exact List.nodup_append.mpr ⟨ih, by simp, fun a ha b hb => by
        rw [List.mem_singleton] at hb
        subst hb
        exact fun e => h (e ▸ ha)⟩
end Q
set_option Elab.async false
set_option linter.all false
set_option maxRecDepth 100000
set_option maxHeartbeats 2000000
set_option autoImplicit false
namespace Q
open PySem PySem.Spec PyProof.Rows L2
theorem rep_map {α β : Type} (f : α → β) (u : List α) : ∀ m : Nat, (List.replicate m (u.map f)).flatten = ((List.replicate m u).flatten).map f
  | 0 => rfl
  | m + 1 => by rw [List.replicate_succ, List.replicate_succ, List.flatten_cons, List.flatten_cons, List.map_append, rep_map f u m]
theorem rep_mem {α : Type} {u : List α} {x : α} : ∀ {m : Nat}, x ∈ (List.replicate m u).flatten → x ∈ u
  | 0, h => by simp at h
  | m + 1, h => by
    rw [List.replicate_succ, List.flatten_cons, List.mem_append] at h
    exact h.elim id rep_mem
end Q
set_option Elab.async false
set_option linter.all false
set_option maxRecDepth 100000
set_option maxHeartbeats 2000000
set_option autoImplicit false
namespace Q
open PySem PySem.Spec PyProof.Rows L2
end Q
set_option Elab.async false
set_option linter.all false
set_option maxRecDepth 100000
set_option maxHeartbeats 2000000
set_option autoImplicit false
namespace Q
open PySem PySem.Spec PyProof.Rows L2
section
variable {prog : Program} {w : World} {A : Around} {E : Value → Shared → Prop} {s : Shared}
set_option maxRecDepth 100000 in
end
section
variable {X : Cx}
end
section
variable {X : Cx} {g : Gd} {W : WX} {a o : Expr} {ta to : TE} {qa : TNq} {p pos pos' p2 : Pos} {c : Cg}
end
section
variable {a : List Int} {i j l : Int} {k : D → Prop}
theorem f_eqW1 : fEq (.lst (a.map .int)) (.lst [.int i]) k = k (.bl (decide (a = [i]))) := f_eqIL (b := [i])
theorem f_eqW2 : fEq (.lst (a.map .int)) (.lst [.int i, .int j]) k = k (.bl (decide (a = [i, j]))) := f_eqIL (b := [i, j])
theorem f_eqW3 : fEq (.lst (a.map .int)) (.lst [.int i, .int j, .int l]) k = k (.bl (decide (a = [i, j, l]))) := f_eqIL (b := [i, j, l])
end
end Q
set_option Elab.async false
set_option linter.all false
set_option maxRecDepth 100000
set_option maxHeartbeats 2000000
set_option autoImplicit false
namespace Q
open PySem PySem.Spec PyProof.Rows L2
section
variable {P : Program} {w : World} {A : Around} {E : Value → Shared → Prop} {s : Shared} {a : Addr}
set_option maxRecDepth 100000 in
set_option maxHeartbeats 3200000 in
end
section
variable {X : Cx} {g : Gd} {W : WX} {a : Expr} {ta : TE} {qa : TEq} {p p2 pos : Pos} {c : Cg}
end
end Q
set_option Elab.async false
set_option linter.all false
set_option maxRecDepth 100000
set_option maxHeartbeats 2000000
set_option autoImplicit false
namespace Q
open PySem PySem.Spec PyProof.Rows L2
def ZSt (h : Heap) (z TI TO i1 i2 l1 l2 : Addr) (xs ys : Array Value) (S : Addr) (i : Nat) : Prop :=
  IsPair h TI (.ref i1) (.ref i2) ∧ h.IsListIter i1 l1 i ∧ h.IsListIter i2 l2 i ∧ h.IsList l1 xs ∧ h.IsList l2 ys ∧
    ((IsZip h z TI TO .none ∧ ∃ a b, IsPair h TO a b) ∨ ∃ T f oT, IsZipHeld h z TI TO T f ∧ h.get? T = some oT ∧ T ≠ z ∧ T ≠ i1 ∧ T ≠ i2 ∧ T ≠ S)
structure ZOff (z TI TO i1 i2 l1 l2 S : Addr) : Prop where
  z : z ≠ S
  TI : TI ≠ S
  TO : TO ≠ S
  i1 : i1 ≠ S
  i2 : i2 ≠ S
  l1 : l1 ≠ S
  l2 : l2 ≠ S
section
variable {prog : Program} {w : World} {A : Around} {E : Value → Shared → Prop} {s : Shared} {z TI TO i1 i2 l1 l2 S : Addr} {xs ys : Array Value} {i : Nat}
theorem ZSt.keep {h h' : Heap} (x : ZSt h z TI TO i1 i2 l1 l2 xs ys S i) (D : ZOff z TI TO i1 i2 l1 l2 S) (hk : ∀ b o, b ≠ S → h.get? b = some o → h'.get? b = some o) : ZSt h' z TI TO i1 i2 l1 l2 xs ys S i := by
  obtain ⟨h1, h2, h3, h4, h5, h6⟩ := x
  refine ⟨hk _ _ D.TI h1, h2.at fun o e => hk _ o D.i1 e, h3.at fun o e => hk _ o D.i2 e, h4.at fun o e => hk _ o D.l1 e, h5.at fun o e => hk _ o D.l2 e, ?_⟩
  rcases h6 with ⟨hz, a, b, hTO⟩ | ⟨T, f, oT, hz, hT, r1, r2, r3, r4⟩
  · exact .inl ⟨hk _ _ D.z hz, a, b, hk _ _ D.TO hTO⟩
  · exact .inr ⟨T, f, oT, hk _ _ D.z hz, hk _ _ r4 hT, r1, r2, r3, r4⟩
end
section
variable {X : Cx} {e e2 : Expr} {ta : TA} {p p2 pos q : Pos}
end
end Q
set_option Elab.async false
set_option linter.all false
set_option maxRecDepth 100000
set_option maxHeartbeats 2000000
set_option autoImplicit false
namespace Q
open PySem PySem.Spec PyProof.Rows L2
section
variable {c : Cg} {X : Cx} {g : Gd} {W : WX} {e e2 a b : Expr} {es : List Expr} {ta tb : TE} {tl : TA} {qa qb : TEq} {ql : TAq} {p pos p2 tpos : Pos}
end
end Q
set_option Elab.async false
set_option linter.all false
set_option maxRecDepth 100000
set_option maxHeartbeats 2000000
set_option autoImplicit false
namespace Q
open PySem PySem.Spec PyProof.Rows L2
def mergeD (kvs more : List (Key × D)) : List (Key × D) := more.foldl (fun acc kv => pD acc kv.1 kv.2) kvs
section
variable {K : Fg} {S H : Hp}
theorem RepK.merge : ∀ {more : List (Key × V)} {mored : List (Key × D)} {kvs : List (Key × V)} {ds : List (Key × D)}, RepK K S more mored → RepK K S kvs ds → RepK K S (mergeK kvs more) (mergeD ds mored)
  | _, _, _, _, .nil, h => h
  | _, _, kvs, ds, .cons (k := k) (v := v) (d := d) a t, h => (RepK.merge t (RepK.put a h) : RepK K S (mergeK (putK kvs k v) _) (mergeD (pD ds k d) _))
def fSortI : List D → (Rv → Prop) → Prop
  | [.lst ds], k => ∃ ns : List Int, ds = ns.map .int ∧ ∀ ns' : List Int, ns'.Perm ns → ns'.Pairwise (· ≤ ·) → k (.own (.lst (ns'.map .int)))
  | _, _ => False
theorem f_sortI {ns : List Int} {k : Rv → Prop} : fSortI [.lst (ns.map .int)] k = ∀ ns' : List Int, ns'.Perm ns → ns'.Pairwise (· ≤ ·) → k (.own (.lst (ns'.map .int))) := propext ⟨fun ⟨ms, e, h⟩ => by
  have e := (List.map_inj_right (fun a b h => by cases h; rfl)).mp e
  subst e; exact h, fun h => ⟨ns, rfl, h⟩⟩
theorem c_sortI : CbR K (rSortedI K) fSortI := by
  intro S H vs ds k Q s a hf o
  unfold fSortI at hf
  split at hf
  · obtain ⟨ns, rfl, q⟩ := hf
    obtain ⟨v, rfl, a1⟩ := ats1 a
    cases a1 with
    | lst h r =>
      have := r.ints
      subst this
      exact ⟨_, ns, rfl, SqL.of h, fun ns' p h1 h2 hp => o.new p _ _ hp (.lst upd_same (Reps.of_ints ns')) (q ns' h1 h2)⟩
  · exact hf.elim
end
end Q
set_option Elab.async false
set_option linter.all false
set_option maxRecDepth 100000
set_option maxHeartbeats 2000000
set_option autoImplicit false
namespace Q
open PySem PySem.Spec PyProof.Rows L2
theorem Alike.snoc {α β : Type} {N : List α} {L : List β} {a : α} {b : β} (h : Alike N L) (hs : ∀ j, j < N.length → (N[j]? = some a ↔ L[j]? = some b)) : Alike (N ++ [a]) (L ++ [b]) := by
  have hl := h.1
  refine ⟨by rw [List.length_append, List.length_append, hl]; rfl, fun i j hi hj => ?_⟩
  rw [List.length_append, List.length_singleton] at hi hj
  have at_ : ∀ {γ : Type} {M : List γ} {c : γ} {n : Nat}, n = M.length → (M ++ [c])[n]? = some c := fun {γ M c n} e => by rw [e, List.getElem?_append_right (Nat.le_refl _), Nat.sub_self]; rfl
  rcases Nat.lt_or_ge i N.length with g | g
  · rw [List.getElem?_append_left (l₁ := N) g, List.getElem?_append_left (l₁ := L) (show i < L.length by omega)]
    rcases Nat.lt_or_ge j N.length with g2 | g2
    · rw [List.getElem?_append_left (l₁ := N) g2, List.getElem?_append_left (l₁ := L) (show j < L.length by omega)]
      exact h.2 i j g g2
    · rw [at_ (show j = N.length by omega), at_ (show j = L.length by omega)]
      exact hs i g
  · rw [at_ (show i = N.length by omega), at_ (show i = L.length by omega)]
    rcases Nat.lt_or_ge j N.length with g2 | g2
    · rw [List.getElem?_append_left (l₁ := N) g2, List.getElem?_append_left (l₁ := L) (show j < L.length by omega)]
      exact ⟨fun e => ((hs j g2).mp e.symm).symm, fun e => ((hs j g2).mpr e.symm).symm⟩
    · rw [at_ (show j = N.length by omega), at_ (show j = L.length by omega)]
      exact ⟨fun _ => rfl, fun _ => rfl⟩
end Q
set_option Elab.async false
set_option linter.all false
set_option maxRecDepth 100000
set_option maxHeartbeats 2000000
set_option autoImplicit false
namespace Q
open PySem PySem.Spec PyProof.Rows L2
section
variable {X : Cx} {g : Gd} {W : WX} {pos p1 p2 : Pos}
end
end Q
set_option Elab.async false
set_option linter.all false
set_option maxRecDepth 100000
set_option maxHeartbeats 2000000
set_option autoImplicit false
namespace Q
open PySem PySem.Spec PyProof.Rows L2
theorem f_eqNN {k : D → Prop} : fEq (.lst []) (.lst []) k = k (.bl true) := f_eqIL (a := []) (b := [])
end Q
set_option Elab.async false
set_option linter.all false
set_option maxRecDepth 100000
set_option maxHeartbeats 2000000
namespace SSq
open PySem PySem.Spec PyProof.Rows
section
variable {prog : Program} {w : World} {A : Around} {R : Result → Shared → Prop} {I : Addr} {fp wr : List Addr} {G : Array GenState → Array GenState → Prop} {n : Nat} {P : Nat → Value → Prop} {St : Nat → Shared → Prop}
end
section
variable {prog : Program} {w : World} {A : Around} {E : Value → Shared → Prop} {s : Shared}
set_option maxHeartbeats 3200000 in
set_option maxHeartbeats 3200000 in
end
end SSq
set_option Elab.async false
set_option linter.all false
set_option maxRecDepth 100000
set_option maxHeartbeats 2000000
set_option autoImplicit false
namespace Q
open PySem PySem.Spec PyProof.Rows L2
section
variable {X : Cx} {g : Gd} {W : WX} {a : Expr} {ta : TE} {qa : TEq} {p p2 pos : Pos} {c : Cg}
end
def notScr : D → Bool
  | .scr _ => false
  | _ => true
theorem f_notScrL {xs : List D} : notScr (.lst xs) = true := rfl
theorem f_notScrT {xs : List D} : notScr (.tup xs) = true := rfl
end Q
set_option Elab.async false
set_option linter.all false
set_option maxRecDepth 100000
set_option maxHeartbeats 2000000
set_option autoImplicit false
namespace Q
open PySem PySem.Spec PyProof.Rows L2
end Q
set_option Elab.async false
set_option linter.all false
set_option maxRecDepth 100000
set_option maxHeartbeats 2000000
set_option autoImplicit false
namespace Q
open PySem PySem.Spec PyProof.Rows L2
end Q
set_option Elab.async false
set_option linter.all false
set_option maxRecDepth 100000
set_option maxHeartbeats 2000000
set_option autoImplicit false
namespace Q
open PySem PySem.Spec PyProof.Rows L2
def wr (names : List Str) (I : List Int) : List Str := I.map fun i => names.getD i.toNat ""
end Q
set_option Elab.async false
set_option linter.all false
set_option maxRecDepth 100000
set_option maxHeartbeats 2000000
set_option autoImplicit false
namespace Q
open PySem PySem.Spec PyProof.Rows L2
theorem toPs_strs : ∀ ns : List Str, toPs (ns.map .str) = ns.map PyData.str
  | [] => rfl
  | n :: r => by rw [List.map_cons, List.map_cons, ← toPs_strs r]; rfl
theorem ev_strs : ∀ ns ms : List Str, PyData.eqvAll (ns.map PyData.str) (ms.map PyData.str) = decide (ns = ms)
  | [], [] => by simp [PyData.eqvAll]
  | [], _ :: _ => by simp [PyData.eqvAll]
  | _ :: _, [] => by simp [PyData.eqvAll]
  | a :: r, b :: t => by
    simp only [List.map_cons, PyData.eqvAll, PyData.eqv, ev_strs r t]
    by_cases h : a = b <;> by_cases h' : r = t <;> simp [h, h']
def okS (l : List Str) : Prop := ∀ x ∈ l, PyData.strOk x = true
theorem cl_strs : ∀ ns : List Str, PyData.canLayAll0 (ns.map PyData.str) = true ↔ okS ns
  | [] => ⟨fun _ x hx => (nomatch hx), fun _ => rfl⟩
  | a :: r => by
    have := cl_strs r
    simp only [List.map_cons, PyData.canLayAll0, PyData.canLay0, Bool.and_eq_true, this]
    unfold okS
    simp
theorem dp_strs0 : ∀ ns : List Str, PyData.depthAll (ns.map PyData.str) = 0
  | [] => rfl
  | _ :: r => by simp [PyData.depthAll, PyData.depth, dp_strs0 r]
theorem shp_sl (ns : List Str) : SeqAt.shaped (toP (.lst (ns.map .str))) = true ↔ okS ns := by
  unfold toP
  rw [toPs_strs]
  simp [SeqAt.shaped, PyData.canLay0, PyData.depth, cl_strs, dp_strs0]
theorem ev_sl (a b : List Str) : PyData.eqv (toP (.lst (a.map .str))) (toP (.lst (b.map .str))) = decide (a = b) := by
  unfold toP
  rw [toPs_strs, toPs_strs, PyData.eqv]
  exact ev_strs a b
section
variable {a b : List Str} {x : Str} {k : D → Prop}
theorem f_eqSL : fEq (.lst (a.map .str)) (.lst (b.map .str)) k = (okS a ∧ okS b ∧ k (.bl (decide (a = b)))) := by
  show (SeqAt.shaped _ = true ∧ SeqAt.shaped _ = true ∧ k (.bl (PyData.eqv _ _))) = _
  rw [ev_sl]
  exact propext (by rw [shp_sl, shp_sl])
theorem f_neSL : fNe (.lst (a.map .str)) (.lst (b.map .str)) k = (okS a ∧ okS b ∧ k (.bl (!decide (a = b)))) := by
  show (SeqAt.shaped _ = true ∧ SeqAt.shaped _ = true ∧ k (.bl (!PyData.eqv _ _))) = _
  rw [ev_sl]
  exact propext (by rw [shp_sl, shp_sl])
theorem okS_nil : okS [] := fun _ h => nomatch h
theorem f_eqSNil : fEq (.lst (a.map .str)) (.lst []) k = (okS a ∧ k (.bl (decide (a = [])))) := by
  have := f_eqSL (a := a) (b := []) (k := k)
  rw [List.map_nil] at this
  rw [this]
  exact propext ⟨fun h => ⟨h.1, h.2.2⟩, fun h => ⟨h.1, okS_nil, h.2⟩⟩
theorem f_neSNil : fNe (.lst (a.map .str)) (.lst []) k = (okS a ∧ k (.bl (!decide (a = [])))) := by
  have := f_neSL (a := a) (b := []) (k := k)
  rw [List.map_nil] at this
  rw [this]
  exact propext ⟨fun h => ⟨h.1, h.2.2⟩, fun h => ⟨h.1, okS_nil, h.2⟩⟩
theorem f_neNN : fNe (.lst []) (.lst []) k = k (.bl false) := f_neIL (a := []) (b := [])
end
end Q
set_option Elab.async false
set_option linter.all false
set_option maxRecDepth 100000
set_option maxHeartbeats 2000000
set_option autoImplicit false
namespace Q
open PySem PySem.Spec PyProof.Rows L2
end Q
set_option Elab.async false
set_option linter.all false
set_option maxRecDepth 100000
set_option maxHeartbeats 2000000
set_option autoImplicit false
namespace Q
open PySem PySem.Spec PyProof.Rows L2
section
variable {α β : Type} [DecidableEq α] [DecidableEq β]
end
section
variable {u w : List Str} {m : Nat} {kt kb : List (Key × D)} {x y : Str}
end
end Q
set_option Elab.async false
set_option linter.all false
set_option maxRecDepth 100000
set_option maxHeartbeats 2000000
set_option autoImplicit false
namespace Q
open PySem PySem.Spec PyProof.Rows L2
end Q
set_option Elab.async false
set_option linter.all false
set_option maxRecDepth 100000
set_option maxHeartbeats 2000000
set_option autoImplicit false
namespace Q
open PySem PySem.Spec PyProof.Rows L2
end Q
set_option Elab.async false
set_option linter.all false
set_option maxRecDepth 100000
set_option maxHeartbeats 2000000
set_option autoImplicit false
namespace Q
open PySem PySem.Spec PyProof.Rows L2
theorem put_erase {α : Type} (N : List α) (a : α) {p : Nat} (hp : p < N.length) : (N.take p ++ [a] ++ N.drop p).take (p + 1) ++ (N.take p ++ [a] ++ N.drop p).drop (p + 1 + 1) = N.take p ++ [a] ++ N.drop (p + 1) := by
  have hA : (N.take p ++ [a]).length = p + 1 := by rw [List.length_append, List.length_take, List.length_singleton]; omega
  rw [List.take_left' hA, List.drop_append, List.drop_eq_nil_of_le (by omega), List.nil_append, hA, List.drop_drop]
  congr 2; omega
theorem Alike.put {α β : Type} {N : List α} {L : List β} {a : α} {b : β} {p : Nat} (hp : p < N.length) (hl : N.length = L.length) (h : Alike (N.take p ++ [a] ++ N.drop p) (L.take p ++ [b] ++ L.drop p)) :
    Alike (N.take p ++ [a] ++ N.drop (p + 1)) (L.take p ++ [b] ++ L.drop (p + 1)) := by
  have := h.erase (p + 1) (by simp only [List.length_append, List.length_take, List.length_drop, List.length_singleton]; omega)
  rwa [put_erase N a hp, put_erase L b (by omega)] at this
section
variable {I : List Int} {n s : Int} {p q : Nat}
end
end Q
set_option Elab.async false
set_option linter.all false
set_option maxRecDepth 100000
set_option maxHeartbeats 2000000
set_option autoImplicit false
namespace Q
open PySem PySem.Spec PyProof.Rows L2
end Q
set_option Elab.async false
set_option linter.all false
set_option maxRecDepth 100000
set_option maxHeartbeats 2000000
set_option autoImplicit false
namespace Q
open PySem PySem.Spec PyProof.Rows L2
section
variable {X : Cx} {g : Gd} {W : WX} {tg iter kx vx : Expr} {ifs : List Expr} {scope : Scope} {own : List (Str × Nat)} {ti : TI} {qi : TIq} {q : TGq} {qt : TTq} {qk qe : TEq} {pos : Pos}
  {t : Shared → Hp → Addr → List (Str × Addr) → List Addr → TG} {tt : Shared → Hp → Addr → List (Str × Addr) → List Addr → TT} {tk te : Shared → Hp → Addr → List (Str × Addr) → List Addr → TE}
end
end Q
set_option Elab.async false
set_option linter.all false
set_option maxRecDepth 100000
set_option maxHeartbeats 2000000
set_option autoImplicit false
namespace Q
open PySem PySem.Spec PyProof.Rows L2
section
variable {K : Fg} {S : Hp} {c : Cg} {W : WX} {ta tb : TE} {q qa qb : TEq}
theorem reps_rg (a b : Int) : Reps K S (rgV a b) (ranged a (b - a).toNat) := by
  unfold rgV ranged
  have : ∀ l : List Nat, Reps K S (l.map fun i => V.int (a + (i : Nat))) (l.map fun i => D.int (a + (i : Nat))) := fun l => by
    induction l with
    | nil => exact .nil
    | cons i l ih => exact .cons (.int _) ih
  exact this _
def qLstRg1 (q : TEq) : TNq := fun env k x => q env (fun y env1 => ∃ n, res env1 y = some (.int n) ∧ n ≤ 16777216 ∧ 0 ≤ n ∧ k (.own (.lst (ranged 0 n.toNat))) env1) x
theorem sm_lstRg1 (ha : Sm c W ta q) : SmN c W (tLstRg (tRg1 ta)) (qLstRg1 q) := by
  intro F P S b σ H env k x Q R hq hx hk
  refine ha F P S b σ H env _ x _ R hq hx fun S1 H1 env1 v y R1 e1 r1 h1 => ?_
  obtain ⟨n, hn, h2, h3, h4⟩ := h1
  refine ⟨n, (R1.read r1 hn).scal (w := .int n) rfl, .of_le (Int.le_refl 0) h2 (by omega) h3, fun p hp => ?_⟩
  have nw := R1.new hp
  refine hk S1 (upd H1 p _) env1 (.ref p) (.own _) (R1.alloc hp) e1 ⟨p, rfl, nw.1, nw.2.1, nw.2.2, .lst upd_same ?_⟩ (fun _ _ i e q hq => ?_) h4
  · have := reps_rg (K := c.K) (S := S1) 0 n
    rwa [Int.sub_zero] at this
  · cases hq
    exact R1.notOwn hp i e
end
section
variable {X : Cx} {g : Gd} {W : WX} {e e2 : Expr} {ta tb : TE} {qa qb : TEq} {p p2 pos q : Pos}
theorem qn_lstRg1 (hc : X.calm = true) (hg : Gl X "list") (hm : X.mg "list" = none) (hg2 : Gl X "range") (hm2 : X.mg "range" = none) (ha : QE X g W e ta qa) (na : starEach [e] X.env = (false, eval e X.env) :: starEach [] X.env := by rfl)
    (nb : starEach [.Call (.Name "range" p2) [e] [] q] X.env = (false, eval (.Call (.Name "range" p2) [e] [] q) X.env) :: starEach [] X.env := by rfl) : QN X g W (.Call (.Name "list" p) [.Call (.Name "range" p2) [e] [] q] [] pos) (tLstRg (tRg1 ta)) (qLstRg1 qa) :=
  ⟨pe_listRg hc hg hm (prg_1 hg2 hm2 ha.pe na) nb, fun N => sm_lstRg1 (ha.sm N)⟩
end
theorem e_lstRg1 {q : TEq} {env : En} {kn : Rv → En → Prop} {x : XQ} : qLstRg1 q env kn x = q env (fun y env1 => rd env1 y (dI fun n => n ≤ 16777216 ∧ 0 ≤ n ∧ kn (.own (.lst (ranged 0 n.toNat))) env1)) x := by
  unfold qLstRg1; simp only [rd_I]
theorem upto_mem {n : Nat} {i : Int} : i ∈ upto n ↔ 0 ≤ i ∧ i < n := by
  unfold upto
  simp only [List.mem_map, List.mem_range]
  constructor
  · rintro ⟨a, h, rfl⟩; omega
  · rintro ⟨h1, h2⟩; exact ⟨i.toNat, by omega, by omega⟩
end Q
set_option Elab.async false
set_option linter.all false
set_option maxRecDepth 100000
set_option maxHeartbeats 2000000
set_option autoImplicit false
namespace Q
open PySem PySem.Spec PyProof.Rows L2
def prA (e : D) : Int := toI ((itemsOf e).getD 0 .non)
def prZ (e : D) : Int := toI ((itemsOf e).getD 1 .non)
def prOk (own other : Int) (e : D) : Bool := isSeq e && decide ((itemsOf e).length = 2) && intIn 0 (.int (own - 1)) ((itemsOf e).getD 0 .non) && intIn 0 (.int (other - 1)) ((itemsOf e).getD 1 .non)
def prsM (d : D) : List (Int × Int) := (itemsOf d).map fun e => (prA e, prZ e)
def ascB (ns : List Int) : Bool := (ns.zip (ns.drop 1)).all fun p => decide (p.1 < p.2)
def isMap (own other : Int) (d : D) : Bool := isSeq d && (itemsOf d).all (prOk own other) && ascB ((itemsOf d).map prA) && decide ((dd ((itemsOf d).map prZ)).length = (itemsOf d).length)
structure MapOk (own other : Int) (ps : List (Int × Int)) : Prop where
  asc : (ps.map (·.1)).Pairwise (· < ·)
  dif : (ps.map (·.2)).Nodup
  bd : ∀ p ∈ ps, 0 ≤ p.1 ∧ p.1 < own ∧ 0 ≤ p.2 ∧ p.2 < other
theorem asc_pw : ∀ {ns : List Int}, ns.Pairwise (· < ·) → ascB ns = true
  | [], _ => rfl
  | [_], _ => rfl
  | a :: b :: r, h => by
    have h1 := (List.pairwise_cons.mp h).1 b (List.mem_cons_self ..)
    have h2 := asc_pw (List.pairwise_cons.mp h).2
    unfold ascB at h2 ⊢
    rw [show (a :: b :: r).drop 1 = b :: r from rfl, List.zip_cons_cons, List.all_cons, decide_eq_true h1, Bool.true_and]
    exact h2
inductive PairsD : List D → List (Int × Int) → Prop
  | nil : PairsD [] []
  | lst {a b : Int} {ds : List D} {ps : List (Int × Int)} : PairsD ds ps → PairsD (.lst [.int a, .int b] :: ds) ((a, b) :: ps)
  | tup {a b : Int} {ds : List D} {ps : List (Int × Int)} : PairsD ds ps → PairsD (.tup [.int a, .int b] :: ds) ((a, b) :: ps)
theorem PairsD.length : ∀ {ds : List D} {ps : List (Int × Int)}, PairsD ds ps → ds.length = ps.length
  | _, _, .nil => rfl
  | _, _, .lst r => congrArg (· + 1) r.length
  | _, _, .tup r => congrArg (· + 1) r.length
theorem PairsD.prs : ∀ {ds : List D} {ps : List (Int × Int)}, PairsD ds ps → ds.map (fun e => (prA e, prZ e)) = ps
  | _, _, .nil => rfl
  | _, _, .lst r => congrArg _ r.prs
  | _, _, .tup r => congrArg _ r.prs
theorem PairsD.ok {own other : Int} : ∀ {ds : List D} {ps : List (Int × Int)}, PairsD ds ps → (∀ p ∈ ps, 0 ≤ p.1 ∧ p.1 < own ∧ 0 ≤ p.2 ∧ p.2 < other) → ds.all (prOk own other) = true
  | _, _, .nil, _ => rfl
  | _, _, .lst (a := a) (b := b) r, h => by
    rw [List.all_cons, r.ok fun p hp => h p (List.mem_cons_of_mem _ hp), Bool.and_true]
    obtain ⟨h1, h2, h3, h4⟩ := h _ (List.mem_cons_self ..)
    show (true && true && intIn 0 (.int (own - 1)) (.int a) && intIn 0 (.int (other - 1)) (.int b)) = true
    rw [in_ok h1 (by show a ≤ own - 1; omega), in_ok h3 (by show b ≤ other - 1; omega)]; rfl
  | _, _, .tup (a := a) (b := b) r, h => by
    rw [List.all_cons, r.ok fun p hp => h p (List.mem_cons_of_mem _ hp), Bool.and_true]
    obtain ⟨h1, h2, h3, h4⟩ := h _ (List.mem_cons_self ..)
    show (true && true && intIn 0 (.int (own - 1)) (.int a) && intIn 0 (.int (other - 1)) (.int b)) = true
    rw [in_ok h1 (by show a ≤ own - 1; omega), in_ok h3 (by show b ≤ other - 1; omega)]; rfl
theorem PairsD.noScr : ∀ {ds : List D} {ps : List (Int × Int)}, PairsD ds ps → ∀ e ∈ ds, notScr e = true ∧ (itemsOf e).length ≤ 2
  | _, _, .nil, _, h => (nomatch h)
  | _, _, .lst r, e, h => by
    rcases List.mem_cons.mp h with rfl | h
    · exact ⟨rfl, Nat.le_refl 2⟩
    · exact r.noScr e h
  | _, _, .tup r, e, h => by
    rcases List.mem_cons.mp h with rfl | h
    · exact ⟨rfl, Nat.le_refl 2⟩
    · exact r.noScr e h
theorem PairsD.shw : ∀ {ds : List D} {ps : List (Int × Int)}, PairsD ds ps → (∀ p ∈ ps, p.1.natAbs < 10 ^ 12 ∧ p.2.natAbs < 10 ^ 12) → ∀ e ∈ ds, Shw e 1 33
  | _, _, .nil, _, _, h => (nomatch h)
  | _, _, .lst r, hb, e, h => by
    rcases List.mem_cons.mp h with rfl | h
    · have := hb _ (List.mem_cons_self ..)
      exact (shw_lst (shws_cons (shw_int this.1) (shws_cons (shw_int this.2) shws_nil))).mono (by decide) (by decide)
    · exact r.shw (fun p hp => hb p (List.mem_cons_of_mem _ hp)) e h
  | _, _, .tup r, hb, e, h => by
    rcases List.mem_cons.mp h with rfl | h
    · have := hb _ (List.mem_cons_self ..)
      exact (shw_tup (shws_cons (shw_int this.1) (shws_cons (shw_int this.2) shws_nil))).mono (by decide) (by decide)
    · exact r.shw (fun p hp => hb p (List.mem_cons_of_mem _ hp)) e h
theorem PairsD.snoc {ds : List D} {ps : List (Int × Int)} {a b : Int} : PairsD ds ps → ∀ {e : D}, (e = .lst [.int a, .int b] ∨ e = .tup [.int a, .int b]) → PairsD (ds ++ [e]) (ps ++ [(a, b)])
  | .nil, e, h => by rcases h with rfl | rfl; exact .lst .nil; exact .tup .nil
  | .lst r, e, h => .lst (r.snoc h)
  | .tup r, e, h => .tup (r.snoc h)
theorem PairsD.map {own other : Int} {d : D} {ds : List D} {ps : List (Int × Int)} (h : PairsD ds ps) (m : MapOk own other ps) (hd : d = .lst ds ∨ d = .tup ds) : isMap own other d = true ∧ prsM d = ps := by
  have e : itemsOf d = ds := by rcases hd with rfl | rfl <;> rfl
  have es : isSeq d = true := by rcases hd with rfl | rfl <;> rfl
  have e1 : ds.map prA = ps.map (·.1) := by rw [← h.prs, List.map_map]; rfl
  have e2 : ds.map prZ = ps.map (·.2) := by rw [← h.prs, List.map_map]; rfl
  unfold isMap prsM
  rw [e, es, h.ok m.bd, e1, e2, asc_pw m.asc, dd_nodup m.dif, List.length_map, h.length]
  refine ⟨by simp, h.prs⟩
section
variable {own other c s t : Int} {ps : List (Int × Int)}
end
section
variable {a b : List Int} {ps : List (Int × Int)}
end
theorem asc_len : ∀ (l : List Int) (lo hi : Int), l.Pairwise (· < ·) → (∀ x ∈ l, lo ≤ x ∧ x < hi) → l.length ≤ (hi - lo).toNat
  | [], _, _, _, _ => Nat.zero_le _
  | a :: l, lo, hi, h, hb => by
    have h1 := List.pairwise_cons.mp h
    have h2 := asc_len l (a + 1) hi h1.2 fun x hx => ⟨by have := h1.1 x hx; omega, (hb x (List.mem_cons_of_mem _ hx)).2⟩
    have h3 := hb a (List.mem_cons_self ..)
    rw [List.length_cons]
    omega
theorem MapOk.len {own other : Int} {ps : List (Int × Int)} (m : MapOk own other ps) : ps.length ≤ own.toNat := by
  have := asc_len (ps.map (·.1)) 0 own m.asc fun x hx => by
    obtain ⟨p, hp, rfl⟩ := List.mem_map.mp hx
    have := m.bd p hp
    exact ⟨this.1, this.2.1⟩
  rw [List.length_map] at this
  omega
theorem MapOk.dropLast {own other : Int} {ps : List (Int × Int)} (m : MapOk own other ps) : MapOk own other ps.dropLast :=
  ⟨by rw [List.map_dropLast]; exact m.asc.sublist (List.dropLast_sublist _), by rw [List.map_dropLast]; exact m.dif.sublist (List.dropLast_sublist _), fun p hp => m.bd p (List.dropLast_subset _ hp)⟩
theorem PairsD.at : ∀ {ds : List D} {ps : List (Int × Int)}, PairsD ds ps → ∀ {n : Nat} {e : D}, ds[n]? = some e → ∃ a b : Int, e = .lst [.int a, .int b] ∨ e = .tup [.int a, .int b]
  | _, _, .nil, n, e, h => by simp at h
  | _, _, .lst r, 0, e, h => by simp at h; exact ⟨_, _, .inl h.symm⟩
  | _, _, .tup r, 0, e, h => by simp at h; exact ⟨_, _, .inr h.symm⟩
  | _, _, .lst r, n + 1, e, h => r.at (n := n) (by simpa using h)
  | _, _, .tup r, n + 1, e, h => r.at (n := n) (by simpa using h)
theorem comp_on {α : Type} {g : TGq} {tt : TTq} {te : TEq} {vs : List Nat} {l : List α} {env : En} {k : List D → En → Prop} (f : α → D) (p : α → Bool) (v : α → D)
    (hs : ∀ (n : Nat) (a : α) (acc : List D) (X : List D → En → Prop), l[n]? = some a → n < l.length → acc.length ≤ n → (p a = true → X (acc ++ [v a]) env) → (p a = false → X acc env) → compStep g tt te vs acc X (f a) env)
    (he : k ((l.filter p).map v) env) : compQ g tt te vs (l.map f) [] env k := by
  refine comp_rule (fun _ : Unit => env) (fun n _ acc => acc = ((l.take n).filter p).map v) () (by simp) (fun n d a acc X hd hI hX => ?_) fun a acc h => ?_
  · rw [List.getElem?_map] at hd
    cases e : l[n]? with
    | none => rw [e] at hd; cases hd
    | some x =>
      rw [e] at hd
      cases hd
      have hn := (List.getElem?_eq_some_iff.mp e).1
      have ha : acc.length ≤ n := by
        rw [hI, List.length_map]
        exact Nat.le_trans (List.length_filter_le ..) (by rw [List.length_take]; omega)
      refine hs n x acc X e hn ha (fun hp => hX () _ ?_) fun hp => hX () _ ?_
      · rw [hI, List.take_add_one, e]; simp [hp]
      · rw [hI, List.take_add_one, e]; simp [hp]
  · rw [List.length_map, List.take_length] at h
    rw [h]
    exact he
end Q
set_option Elab.async false
set_option linter.all false
set_option maxRecDepth 100000
set_option maxHeartbeats 2000000
set_option autoImplicit false
namespace Q
open PySem PySem.Spec PyProof.Rows L2
section
variable {c : Cg} {F P S S' H H' : Hp} {b : Option Addr} {σ : L2.St} {env : En}
theorem Rel.drop (R : Rel c F P S b σ H env) (i : Nat) : Rel c F P S b σ H (env.set i .no) := by
  refine ⟨by rw [List.length_set]; exact R.len, R.fp, R.ph, R.sh, fun p e => ⟨(R.bg p e).1, (R.bg p e).2.1, (R.bg p e).2.2.mono (Same.refl _) rfl (bud_le env i _ rfl)⟩, fun j s v h1 h2 => ?_, fun j k q d d' hjk h1 h2 h3 h4 => ?_⟩
  · rcases getElem?_set' h1 with ⟨_, e, _⟩ | ⟨_, e⟩
    · subst e; trivial
    · exact R.sl j s v e h2
  · rcases getElem?_set' h2 with ⟨_, e, _⟩ | ⟨_, e⟩
    · cases e
    · rcases getElem?_set' h4 with ⟨_, e', _⟩ | ⟨_, e'⟩
      · cases e'
      · exact R.ap j k q d d' hjk h1 e h3 e'
theorem Rel.regain {p : Addr} {d : D} {i : Nat} (R : Rel c F P S b σ H env) (h1 : σ[i]? = some (some (.ref p))) (hP : P p = none) (hS : S p = none) (hb : b ≠ some p) (ho : OwnAt c.K S H p d) (hn : ∀ (j : Nat) (e : D), j ≠ i → σ[j]? = some (some (.ref p)) → env[j]? ≠ some (.own e)) :
    Rel c F P S b σ H (env.set i (.own d)) := by
  refine ⟨by rw [List.length_set]; exact R.len, R.fp, R.ph, R.sh, fun p e => ⟨(R.bg p e).1, (R.bg p e).2.1, (R.bg p e).2.2.mono (Same.refl _) rfl (bud_le env i _ rfl)⟩, fun j s v h3 h4 => ?_, fun j k q e e' hjk g1 g2 g3 g4 => ?_⟩
  · rcases getElem?_set' h3 with ⟨z, e, _⟩ | ⟨_, e⟩
    · subst z; subst e
      rw [h1] at h4; cases h4
      exact ⟨p, rfl, hP, hS, hb, ho⟩
    · exact R.sl j s v e h4
  · rcases getElem?_set' g2 with ⟨z, e2, _⟩ | ⟨nz, e2⟩
    · rcases getElem?_set' g4 with ⟨z', _, _⟩ | ⟨nz', e4⟩
      · exact hjk (z.trans z'.symm)
      · subst z
        rw [h1] at g1; cases g1
        exact hn k e' nz' g3 e4
    · rcases getElem?_set' g4 with ⟨z', e4, _⟩ | ⟨_, e4⟩
      · subst z'
        rw [h1] at g3; cases g3
        exact hn j e nz g1 e2
      · exact R.ap j k q e e' hjk g1 e2 g3 e4
end
section
variable {X : Cx} {g : Gd} {W : WX} {tg elt : Expr} {ifs : List Expr} {scope : Scope} {own : List (Str × Nat)} {q : TGq} {qt : TTq} {qe : TEq} {pos p : Pos} {i : Nat} {y : Str}
  {t : Shared → Hp → Addr → List (Str × Addr) → List Addr → TG} {tt : Shared → Hp → Addr → List (Str × Addr) → List Addr → TT} {te : Shared → Hp → Addr → List (Str × Addr) → List Addr → TE}
end
section
variable {X : Cx} {g : Gd} {W : WX} {a : Expr} {ta : TE} {qa : TEq} {p pos : Pos}
end
end Q
set_option Elab.async false
set_option linter.all false
set_option maxRecDepth 100000
set_option maxHeartbeats 2000000
set_option autoImplicit false
namespace Q
open PySem PySem.Spec PyProof.Rows L2
mutual
/-- of numbers, texts, None, lists and tuples, at most n deep -/
def pl : D → Nat → Bool
  | .non, _ => true
  | .int _, _ => true
  | .str x, _ => PyData.strOk x
  | .lst xs, n + 1 => pls xs n
  | .tup xs, n + 1 => pls xs n
  | _, _ => false
def pls : List D → Nat → Bool
  | [], _ => true
  | x :: xs, n => pl x n && pls xs n
end
end Q
set_option Elab.async false
set_option linter.all false
set_option maxRecDepth 100000
set_option maxHeartbeats 2000000
set_option autoImplicit false
namespace Q
open PySem PySem.Spec PyProof.Rows L2
end Q
set_option Elab.async false
set_option linter.all false
set_option maxRecDepth 100000
set_option maxHeartbeats 2000000
set_option autoImplicit false
namespace Q
open PySem PySem.Spec PyProof.Rows L2
def cmp (m : Int) : Nat → Nat → Int
  | 0, _ => 1
  | l + 1, u => (u : Int) * cmp m l u + if (u : Int) < m then cmp m l (u + 1) else 0
def frs (m : Int) (l u : Nat) : Int := if (u : Int) < m then cmp m l (u + 1) else 0
section
variable {m : Int}
end
end Q
set_option Elab.async false
set_option linter.all false
set_option maxRecDepth 100000
set_option maxHeartbeats 2000000
set_option autoImplicit false
namespace Q
open PySem PySem.Spec PyProof.Rows L2
section
variable {X : Cx} {k : Nat} {f : Addr} {fd : FuncData} {ps : List Str} {sp : Sp} {dvs : List V} {ds : List Value} {x : Str} {p pos : Pos} {e : Expr} {es : List Expr} {t : TA}
end
section
variable {X : Cx} {g : Gd} {W : WX} {e : Expr} {es : List Expr} {tl : TA} {ql : TAq} {pos p : Pos} {c : Cg} {k j : Nat} {x : Str} {dds : List D} {sp : Spq} {ms : List Md}
end
end Q
set_option Elab.async false
set_option linter.all false
set_option maxRecDepth 100000
set_option maxHeartbeats 2000000
set_option autoImplicit false
namespace Q
open PySem PySem.Spec PyProof.Rows L2
section
variable {X : Cx} {K : Fg}
end
end Q
set_option Elab.async false
set_option linter.all false
set_option maxRecDepth 100000
set_option maxHeartbeats 2000000
set_option autoImplicit false
namespace Q
open PySem PySem.Spec PyProof.Rows L2
theorem nodup_len {α : Type} [DecidableEq α] : ∀ {l m : List α}, l.Nodup → (∀ x ∈ l, x ∈ m) → l.length ≤ m.length
  | [], _, _, _ => Nat.zero_le _
  | a :: l, m, hn, h => by
    have h1 := List.nodup_cons.mp hn
    have hm := h a (List.mem_cons_self ..)
    have h2 := nodup_len (m := m.erase a) h1.2 fun x hx => (List.mem_erase_of_ne (fun e => h1.1 (by rw [← e]; exact hx))).mpr (h x (List.mem_cons_of_mem _ hx))
    rw [List.length_erase_of_mem hm] at h2
    have := List.length_pos_of_mem hm
    rw [List.length_cons]
    omega
section
variable {m : Int}
end
end Q
set_option Elab.async false
set_option linter.all false
set_option maxRecDepth 100000
set_option maxHeartbeats 2000000
set_option autoImplicit false
namespace Q
open PySem PySem.Spec PyProof.Rows L2
end Q
set_option Elab.async false
set_option linter.all false
set_option maxRecDepth 100000
set_option maxHeartbeats 2000000
set_option autoImplicit false
namespace Q
open PySem PySem.Spec PyProof.Rows L2
section
variable {m : Int}
end
end Q
set_option Elab.async false
set_option linter.all false
set_option maxRecDepth 100000
set_option maxHeartbeats 2000000
set_option autoImplicit false
namespace Q
open PySem PySem.Spec PyProof.Rows L2
end Q
set_option Elab.async false
set_option linter.all false
set_option maxRecDepth 100000
set_option maxHeartbeats 2000000
set_option autoImplicit false
namespace Q
open PySem PySem.Spec PyProof.Rows L2
end Q
set_option Elab.async false
set_option linter.all false
set_option maxRecDepth 100000
set_option maxHeartbeats 2000000
set_option autoImplicit false
namespace Q
open PySem PySem.Spec PyProof.Rows L2
end Q
set_option Elab.async false
set_option linter.all false
set_option maxRecDepth 100000
set_option maxHeartbeats 2000000
set_option autoImplicit false
namespace Q
open PySem PySem.Spec PyProof.Rows L2
end Q
set_option Elab.async false
set_option linter.all false
set_option maxRecDepth 100000
set_option maxHeartbeats 2000000
set_option autoImplicit false
namespace Q
open PySem PySem.Spec PyProof.Rows L2
end Q
set_option Elab.async false
set_option linter.all false
set_option maxRecDepth 100000
set_option maxHeartbeats 2000000
set_option autoImplicit false
namespace Q
open PySem PySem.Spec PyProof.Rows L2
section
variable {K : Fg} {k : D → Prop} {kn : Rv → Prop}
end
section
variable {c : Cg} {X : Cx} {g : Gd} {W : WX} {tg iter e a b : Expr} {es : List Expr} {t ta tb te : TE} {tl : TA} {q qa qb qe : TEq} {ql : TAq} {tt : TT} {qt : TTq} {na nb : TNq} {pos p2 : Pos}
def qIfN (qt : TTq) (qa qb : TNq) : TNq := fun env k x => qt env (fun c env1 => if c = true then qa env1 k x else qb env1 k x) x
theorem sm_ifN (hc : SmT c W tt qt) (ha : SmN c W ta na) (hb : SmN c W tb nb) : SmN c W (tIf tt ta tb) (qIfN qt na nb) := by
  intro F P S b σ H env k x Q R hq hx hk
  refine hc F P S b σ H env _ x _ R hq hx fun S1 H1 env1 y R1 e1 h1 => ?_
  cases y with
  | true =>
    rw [if_pos rfl] at h1 ⊢
    exact ha F P S1 b σ H1 env1 _ x _ R1 h1 (hx.mono e1) fun S2 H2 env2 v z R2 e2 r n h2 => hk S2 H2 env2 v z R2 (e1.trans e2) r n h2
  | false =>
    rw [if_neg Bool.false_ne_true] at h1 ⊢
    exact hb F P S1 b σ H1 env1 _ x _ R1 h1 (hx.mono e1) fun S2 H2 env2 v z R2 e2 r n h2 => hk S2 H2 env2 v z R2 (e1.trans e2) r n h2
theorem qn_ifExp {cd : Expr} (hc : QT X g W cd tt qt) (ha : QN X g W a ta na) (hb : QN X g W b tb nb) : QN X g W (.IfExp cd a b pos) (tIf tt ta tb) (qIfN qt na nb) := ⟨pe_ifExp hc.pt ha.pe hb.pe, fun N => sm_ifN (hc.sm N) (ha.sm N) (hb.sm N)⟩
theorem e_ifN {env : En} {kn : Rv → En → Prop} {x : XQ} : qIfN qt na nb env kn x = qt env (fun c env1 => cIf c (hold (fun _ => na env1 kn x) .mk) (hold (fun _ => nb env1 kn x) .mk)) x := rfl
end
end Q
set_option Elab.async false
set_option linter.all false
set_option maxRecDepth 100000
set_option maxHeartbeats 2000000
set_option autoImplicit false
namespace Q
open PySem PySem.Spec PyProof.Rows L2
end Q
set_option Elab.async false
set_option linter.all false
set_option maxRecDepth 100000
set_option maxHeartbeats 2000000
set_option autoImplicit false
namespace Q
open PySem PySem.Spec PyProof.Rows L2
section
variable {a b c d : D} {l : List D} {k : D → Prop}
theorem e_ixl0 : fIx (.lst (a :: l)) (.int 0) k = k a := by
  have e := atI_pos (xs := a :: l) (i := 0) (by decide)
  have e2 : atI (a :: l) (0 : Int) = some a := e
  exact propext ⟨fun ⟨_, h, q⟩ => (by rw [e2] at h; cases h; exact q), fun q => ⟨_, e2, q⟩⟩
theorem e_ixl1 : fIx (.lst (a :: b :: l)) (.int 1) k = k b := by
  have e := atI_pos (xs := a :: b :: l) (i := 1) (by decide)
  have e2 : atI (a :: b :: l) (1 : Int) = some b := e
  exact propext ⟨fun ⟨_, h, q⟩ => (by rw [e2] at h; cases h; exact q), fun q => ⟨_, e2, q⟩⟩
theorem e_ixl2 : fIx (.lst (a :: b :: c :: l)) (.int 2) k = k c := by
  have e := atI_pos (xs := a :: b :: c :: l) (i := 2) (by decide)
  have e2 : atI (a :: b :: c :: l) (2 : Int) = some c := e
  exact propext ⟨fun ⟨_, h, q⟩ => (by rw [e2] at h; cases h; exact q), fun q => ⟨_, e2, q⟩⟩
theorem e_ixl3 : fIx (.lst (a :: b :: c :: d :: l)) (.int 3) k = k d := by
  have e := atI_pos (xs := a :: b :: c :: d :: l) (i := 3) (by decide)
  have e2 : atI (a :: b :: c :: d :: l) (3 : Int) = some d := e
  exact propext ⟨fun ⟨_, h, q⟩ => (by rw [e2] at h; cases h; exact q), fun q => ⟨_, e2, q⟩⟩
theorem e_ixt0 : fIx (.tup (a :: l)) (.int 0) k = k a := by
  have e := atI_pos (xs := a :: l) (i := 0) (by decide)
  have e2 : atI (a :: l) (0 : Int) = some a := e
  exact propext ⟨fun ⟨_, h, q⟩ => (by rw [e2] at h; cases h; exact q), fun q => ⟨_, e2, q⟩⟩
theorem e_ixt1 : fIx (.tup (a :: b :: l)) (.int 1) k = k b := by
  have e := atI_pos (xs := a :: b :: l) (i := 1) (by decide)
  have e2 : atI (a :: b :: l) (1 : Int) = some b := e
  exact propext ⟨fun ⟨_, h, q⟩ => (by rw [e2] at h; cases h; exact q), fun q => ⟨_, e2, q⟩⟩
theorem e_ixt2 : fIx (.tup (a :: b :: c :: l)) (.int 2) k = k c := by
  have e := atI_pos (xs := a :: b :: c :: l) (i := 2) (by decide)
  have e2 : atI (a :: b :: c :: l) (2 : Int) = some c := e
  exact propext ⟨fun ⟨_, h, q⟩ => (by rw [e2] at h; cases h; exact q), fun q => ⟨_, e2, q⟩⟩
theorem e_ixt3 : fIx (.tup (a :: b :: c :: d :: l)) (.int 3) k = k d := by
  have e := atI_pos (xs := a :: b :: c :: d :: l) (i := 3) (by decide)
  have e2 : atI (a :: b :: c :: d :: l) (3 : Int) = some d := e
  exact propext ⟨fun ⟨_, h, q⟩ => (by rw [e2] at h; cases h; exact q), fun q => ⟨_, e2, q⟩⟩
theorem f_inT2S {z x y : Str} : fIn (.str z) (.tup [.str x, .str y]) k = k (.bl (decide (z = x) || decide (z = y))) := by
  unfold fIn
  rw [fInB_t rfl rfl]
  have e : inD (.str z) [.str x, .str y] = (decide (z = x) || decide (z = y)) := by
    have h := inD_strs z [x, y]
    simp only [List.map_cons, List.map_nil] at h
    rw [h]
    by_cases h1 : z = x <;> by_cases h2 : z = y <;> simp [h1, h2]
  rw [e]
  first | rfl | simp
end
def twoP (n : Int) (a b : D) : Bool := intIn 0 (.int (n - 1)) a && (intIn 0 (.int (n - 1)) b && !decide (toI a = toI b))
def isWord (w : String) : D → Bool
  | .str x => decide (x = Str.ofString w)
  | _ => false
def inWin (n a : Int) (m : Nat) : Bool := decide (1 ≤ m ∧ (m : Int) ≤ n - a)
theorem inWin_t {n a : Int} {m : Nat} (h : 1 ≤ m) : inWin n a m = decide ((m : Int) ≤ n - a) := by simp [inWin, h]
theorem inWin_f {n a : Int} {m : Nat} (h : ¬ 1 ≤ m) : inWin n a m = false := by simp [inWin, h]
def factP (n : Int) : List D → Bool
  | [w, a, b] => ((isWord "same" w || isWord "different" w) && twoP n a b) || (isWord "window" w && (intIn 0 (.int (n - 1)) a && (isDist b && inWin n (toI a) (itemsOf b).length)))
  | [w, a, b, l] => isWord "equivalent" w && (twoP n a b && intIn 1 (.int (n - max (toI a) (toI b))) l)
  | _ => false
def isFact (n : Int) (d : D) : Bool := isSeq d && factP n (itemsOf d)
theorem intIn_int {lo hi : Int} {d : D} (h : intIn lo (.int hi) d = true) : ∃ i : Int, d = .int i ∧ lo ≤ i ∧ i ≤ hi := by
  cases d with
  | int i =>
    simp [intIn, leO] at h
    exact ⟨i, rfl, h.1, h.2⟩
  | _ => cases h
theorem wd_es : ¬ (Str.ofString "equivalent" = Str.ofString "same") := by decide +kernel
theorem wd_ed : ¬ (Str.ofString "equivalent" = Str.ofString "different") := by decide +kernel
theorem wd_ws : ¬ (Str.ofString "window" = Str.ofString "same") := by decide +kernel
theorem wd_wd : ¬ (Str.ofString "window" = Str.ofString "different") := by decide +kernel
theorem wd_we : ¬ (Str.ofString "window" = Str.ofString "equivalent") := by decide +kernel
end Q
set_option Elab.async false
set_option linter.all false
set_option maxRecDepth 100000
set_option maxHeartbeats 2000000
set_option autoImplicit false
namespace Q
open PySem PySem.Spec PyProof.Rows L2
section
open PySem.SeqAt PySem.AutoSeq1
variable {A : Around} {s : Shared} {l : Addr} {o : Obj}
end
section
variable {X : Cx}
end
section
variable {K : Fg} {k : D → Prop}
end
end Q
set_option Elab.async false
set_option linter.all false
set_option maxRecDepth 100000
set_option maxHeartbeats 2000000
set_option autoImplicit false
namespace Q
open PySem PySem.Spec PyProof.Rows L2
section
variable {X : Cx}
def rNil (K : Fg) (neg : Bool) : R2 := fun x y H Q => ∃ a b xs, x = .ref a ∧ y = .ref b ∧ SqL K H a xs ∧ SqL K H b [] ∧ Q (.bl (if neg then !xs.isEmpty else xs.isEmpty)) H
theorem op_eqNil (hu : X.A.units + 64 < cLine) : OpR X (compareOp .Eq) (rNil X.K false) := by
  intro pins s σ H x y v u Q I rx ry h
  obtain ⟨a, b, xs, rfl, rfl, ha, hb, q⟩ := h
  cases rx
  cases ry
  have hu1 : X.A.units < cLine := by omega
  obtain ⟨ia, ra, pa, _⟩ := I.list ha
  obtain ⟨ib, rb, pb, _⟩ := I.list hb
  cases rb
  cases xs with
  | nil =>
    cases ra
    exact SeqAt.RcAt.lists (e := fun _ => true) pa.isList pb.isList rfl hu1 (fun j h1 _ => absurd h1 (by simp)) _ _ _ _ ⟨.bl _, H, I, by first | rfl | (simp; rfl), q⟩
  | cons x xs =>
    cases ra
    exact SeqAt.RcAt.lists_lengths pa.isList pb.isList (by simp) hu1 _ _ _ _ ⟨.bl _, H, I, rfl, q⟩
end
section
variable {K : Fg} {k : D → Prop}
def fNilB (neg : Bool) (d e : D) (k : D → Prop) : Prop := ∃ ds, d = .lst ds ∧ e = .lst [] ∧ k (.bl (if neg then !ds.isEmpty else ds.isEmpty))
def fEqNl := fNilB false
theorem o_nil {neg : Bool} : Op2 K (rNil K neg) (fNilB neg) := by
  intro S H v u d e k Q s a b hf hk
  obtain ⟨ds, rfl, rfl, hf⟩ := hf
  cases a with
  | lst h r =>
    cases b with
    | lst h2 r2 =>
      cases r2
      cases r with
      | nil => exact ⟨_, _, _, rfl, rfl, SqL.of h, SqL.of h2, hk _ _ (.bl _) hf⟩
      | cons _ _ => exact ⟨_, _, _, rfl, rfl, SqL.of h, SqL.of h2, hk _ _ (.bl _) hf⟩
theorem o_eqNl : Op2 K (rNil K false) fEqNl := o_nil
theorem f_eqNl {ds : List D} : fEqNl (.lst ds) (.lst []) k = k (.bl ds.isEmpty) := propext ⟨fun ⟨_, h, _, q⟩ => (by cases h; exact q), fun q => ⟨_, rfl, rfl, q⟩⟩
end
end Q
set_option Elab.async false
set_option linter.all false
set_option maxRecDepth 100000
set_option maxHeartbeats 2000000
set_option autoImplicit false
namespace Q
open PySem PySem.Spec PyProof.Rows L2
def noScr (d : D) : Prop := ∀ ns, d ≠ .scr ns
structure PartOk (d : D) (k n : Nat) : Prop where
  shw : Shw d k n
  ns : noScr d
theorem PartOk.mono {d : D} {k n k' n' : Nat} (h : PartOk d k n) (hk : k ≤ k') (hn : n ≤ n') : PartOk d k' n' := ⟨h.shw.mono hk hn, h.ns⟩
end Q
set_option Elab.async false
set_option linter.all false
set_option maxRecDepth 100000
set_option maxHeartbeats 2000000
set_option autoImplicit false
namespace Q
open PySem PySem.Spec PyProof.Rows L2
section
variable {X : Cx}
end
section
variable {K : Fg} {k : D → Prop}
end
end Q
set_option Elab.async false
set_option linter.all false
set_option maxRecDepth 100000
set_option maxHeartbeats 2000000
set_option autoImplicit false
namespace Q
open PySem PySem.Spec PyProof.Rows L2
section
variable {X : Cx} {pins : List (Addr × Obj)} {σ : L2.St} {H : Hp} {s : Shared} {p : Addr × Obj} {a : Addr} {oe : Obj} {vs : Array Value} {cls : Value}
end
section
variable {X : Cx} {x n : Str} {c : Value} {i : Nat} {body suite : List Stmt} {b₀ : Stmt} {np pos pos' : Pos} {tb : WX → TS} {ts : Addr → TS}
end
end Q
set_option Elab.async false
set_option linter.all false
set_option maxRecDepth 100000
set_option maxHeartbeats 2000000
set_option autoImplicit false
namespace Q
open PySem PySem.Spec PyProof.Rows L2
section
variable {c : Cg} {F P S H : Hp} {b : Option Addr} {σ : L2.St} {env : En} {i : Nat}
end
def ExcK (K : Fg) (mg : Str → Option Value) (c : Value) (names : List Str) : Prop := ∀ nm ∈ names, mg nm = some (.ref (He.ga K nm)) ∧ PySem.W.exmOne K (.ref (He.ga K nm)) c = some true ∧ ExcT K nm
section
variable {X : Cx} {g : Gd} {x n y : Str} {c : Value} {i j : Nat} {names : List Str} {body : List Stmt} {np py pn pa pos pos' : Pos} {tb : WX → List (Addr × Obj) → (Value → Shared → Prop) → TS} {qb : TSq} {W : WX}
end
end Q
set_option Elab.async false
set_option linter.all false
set_option maxRecDepth 100000
set_option maxHeartbeats 2000000
set_option autoImplicit false
namespace Q
open PySem PySem.Spec PyProof.Rows L2
def subE (nm y : Str) : Bool := decide (nm = y) || decide (y = "HowFarBackError")
def clsB (K : Fg) (D : Addr) : Bool := He.eqO (PySem.W.findIn K (.ref D) "__getattribute__") (some (some (.builtin "BaseException.__getattribute__"))) && (He.eqO (PySem.W.findIn K (.ref D) "__getattr__") (some none) &&
  (decide (PySem.W.subIn K (.ref D) (.type "BaseException") = some true) && (PySem.W.hasDictIn K D && (He.eqO (PySem.W.findIn K (.ref D) "__class__") (some (some (.builtin "object.__class__"))) &&
  (He.eqO (PySem.W.specialIn K (.builtin "object.__class__") "__get__") (some (some (.builtin "getset_descriptor.__get__"))) && (decide (PySem.W.takesIn K (.builtin "object.__class__") = some true) && decide (PySem.W.mroIn K D (.type "object") = some true)))))))
theorem clsB_ok {K : Fg} {D : Addr} (h : clsB K D = true) : ExcC K D := by
  unfold clsB at h
  simp only [Bool.and_eq_true, decide_eq_true_eq] at h
  obtain ⟨h1, h2, h3, h4, h5, h6, h7, h8⟩ := h
  exact ⟨He.eqO_ok h1, He.eqO_ok h2, h3, h4, He.eqO_ok h5, He.eqO_ok h6, h7, h8⟩
def tyB (K : Fg) (D : Addr) : Bool := ["int", "bool", "str", "list", "tuple", "dict"].all fun T => decide (PySem.W.kitOne K (.ref D) (.type T) = some false)
def oneB (K : Fg) (nm : Str) (ys : List Str) : Bool := ys.all fun y => decide (PySem.W.kitOne K (.ref (He.ga K nm)) (.ref (He.ga K y)) = some (subE nm y))
def excOneB (K : Fg) (nm : Str) (ys : List Str) : Bool := ys.all fun y => decide (PySem.W.exmOne K (.ref (He.ga K nm)) (.ref (He.ga K y)) = some (subE nm y))
def excB (names ys : List Str) (K : Fg) : Bool := (names.all fun nm => clsB K (He.ga K nm) && (tyB K (He.ga K nm) && (oneB K nm ys && (decide (PySem.W.kitOne K (.ref (He.ga K nm)) (.type "ValueError") = some true) &&
  (decide (PySem.W.exmOne K (.ref (He.ga K nm)) (.ref (He.ga K "HowFarBackError")) = some true) && excOneB K nm ys))))) && ys.all fun y => He.Fa.ok K (.glo y)
structure ExcW (K : Fg) (mg : Str → Option Value) (names ys : List Str) : Prop where
  gl : ∀ y ∈ ys, mg y = some (.ref (He.ga K y))
  ex : ∀ nm ∈ names, ExcT K nm
  one : ∀ nm ∈ names, ∀ y ∈ ys, PySem.W.kitOne K (.ref (He.ga K nm)) (.ref (He.ga K y)) = some (subE nm y)
  ve : ∀ nm ∈ names, PySem.W.kitOne K (.ref (He.ga K nm)) (.type "ValueError") = some true
  exm : ∀ nm ∈ names, PySem.W.exmOne K (.ref (He.ga K nm)) (.ref (He.ga K "HowFarBackError")) = some true
  exc : ∀ nm ∈ names, ∀ y ∈ ys, PySem.W.exmOne K (.ref (He.ga K nm)) (.ref (He.ga K y)) = some (subE nm y)
theorem excB_ok {K : Fg} {h : Heap} {mg : Str → Option Value} {names ys : List Str} (X : K.In h) (G : h.Ns mainGlobals mg) (e : excB names ys K = true) : ExcW K mg names ys := by
  unfold excB at e
  rw [Bool.and_eq_true, List.all_eq_true, List.all_eq_true] at e
  obtain ⟨e1, e2⟩ := e
  have key := fun nm hn => (show _ ∧ _ ∧ _ ∧ _ ∧ _ ∧ _ by simpa only [Bool.and_eq_true, decide_eq_true_eq] using e1 nm hn)
  exact ⟨fun y hy => He.glo_ok X G (e2 y hy), fun nm hn => ⟨clsB_ok (key nm hn).1, fun T hT => of_decide_eq_true (List.all_eq_true.mp (key nm hn).2.1 T hT)⟩,
    fun nm hn y hy => of_decide_eq_true (List.all_eq_true.mp (key nm hn).2.2.1 y hy), fun nm hn => (key nm hn).2.2.2.1, fun nm hn => (key nm hn).2.2.2.2.1, fun nm hn y hy => of_decide_eq_true (List.all_eq_true.mp (key nm hn).2.2.2.2.2 y hy)⟩
theorem ExcW.kept {K : Fg} {mg : Str → Option Value} {names ys : List Str} (T : ExcW K mg names ys) (hs : ∀ nm ∈ names, nm ∈ ys) : ExcK K mg (.ref (He.ga K "HowFarBackError")) names :=
  fun nm hn => ⟨T.gl nm (hs nm hn), T.exm nm hn, T.ex nm hn⟩
abbrev AlE : Type := He.AlD × Bool
def obsE (n : Nat) (fa : List He.Fa) (fn : List He.DefD) (ex : Fg → Bool) (g : Addr → Option Obj) : AlE := (He.obsDG n fa fn g, ex (He.frG g (He.asD g n)))
def hookE (n : Nat) (fa : List He.Fa) (fn : List He.DefD) (ex : Fg → Bool) : PySem.W.Hook where
  α := AlE
  obs := fun s => obsE n fa fn ex s.heap.get?
  val := fun _ => (He.valD fn, true)
  says := fun _ h => ∃ K : Fg, K.In h ∧ He.SaysD fa fn K ∧ ex K = true
  of := fun _ s e => ⟨He.frG s.heap.get? (He.asD s.heap.get? n), He.frG_in, congrArg (fun z : AlE => z.1) e, congrArg (fun z : AlE => z.2) e⟩
  keeps := fun _ _ _ ⟨K, hK, c⟩ k => ⟨K, PySem.W.Frag.In.keeps hK k, c⟩
theorem obsE_eq {n : Nat} {fa : List He.Fa} {fn : List He.DefD} {ex : Fg → Bool} {g : Addr → Option Obj} {s : Shared} (h : ∀ a, g a = s.heap.get? a) : obsE n fa fn ex g = (hookE n fa fn ex).obs s := by
  have e : g = s.heap.get? := funext h
  rw [e] <;> rfl
section
variable {X : Cx} {g : Gd} {W : WX} {e : Expr} {es : List Expr} {te : TE} {qe : TEq} {names ys : List Str} {pos p p2 : Pos}
end
end Q
set_option Elab.async false
set_option linter.all false
set_option maxRecDepth 100000
set_option maxHeartbeats 2000000
set_option autoImplicit false
namespace Q
open PySem PySem.Spec PyProof.Rows L2
theorem e_isEx {names : List Str} {f : Str → Bool} {nm : Str} {k : Bool → Prop} : (∃ nm', D.exc nm = .exc nm' ∧ nm' ∈ names ∧ k (f nm')) = (nm ∈ names ∧ k (f nm)) := propext ⟨fun ⟨_, h, q⟩ => (by cases h; exact q), fun q => ⟨_, rfl, q⟩⟩
end Q
set_option Elab.async false
set_option linter.all false
set_option maxRecDepth 100000
set_option maxHeartbeats 2000000
set_option autoImplicit false
namespace Q
open PySem PySem.Spec PyProof.Rows L2
structure B4 where
  ns : List Int
  l : List (Int × Int)
  t : List (Int × Int)
  c : Int
def PrOk (ps : List (Int × Int)) : Prop := ps.length ≤ 100 ∧ ∀ p ∈ ps, (0 ≤ p.1 ∧ p.1 < 1000) ∧ 0 ≤ p.2 ∧ p.2 < 1000
structure B4Ok (b : B4) : Prop where
  n0 : 1 ≤ b.ns.length
  n1 : b.ns.length ≤ 40
  nb : ∀ i ∈ b.ns, 0 ≤ i ∧ i < 1000
  lo : PrOk b.l
  to : PrOk b.t
  c0 : 1 ≤ b.c
  c1 : b.c ≤ 1000000000000000000000000000000
theorem f_nonE {nm : Str} : isNon (.exc nm) = false := rfl
end Q
set_option Elab.async false
set_option linter.all false
set_option maxRecDepth 100000
set_option maxHeartbeats 2000000
set_option autoImplicit false
namespace Q
open PySem PySem.Spec PyProof.Rows L2
section
variable {X : Cx} {g : Gd} {W : WX} {a b : Expr} {ta tb : TE} {qa qb : TNq} {pos : Pos}
theorem f_empC {d : D} {ds : List D} : (d :: ds).isEmpty = false := rfl
theorem f_empN : ([] : List D).isEmpty = true := rfl
end
end Q
set_option Elab.async false
set_option linter.all false
set_option maxRecDepth 100000
set_option maxHeartbeats 2000000
set_option autoImplicit false
namespace Q
open PySem PySem.Spec PyProof.Rows L2
theorem MapOk.pr {own other : Int} {ps : List (Int × Int)} (m : MapOk own other ps) (h1 : own ≤ 100) (h2 : other ≤ 1000) : PrOk ps :=
  ⟨by have := m.len; omega, fun p hp => by have := m.bd p hp; omega⟩
section
variable {b : B4} (h : B4Ok b)
include h
theorem B4Ok.z : zc b.ns ≤ 40 := by
  have := zc_le b.ns
  have := h.n1
  omega
end
end Q
set_option Elab.async false
set_option linter.all false
set_option maxRecDepth 100000
set_option maxHeartbeats 2000000
set_option autoImplicit false
namespace Q
open PySem PySem.Spec PyProof.Rows L2
section
variable {X : Cx} {k : Nat} {f C : Addr} {fd : FuncData} {ps : List Str} {sp : Sp} {dvs : List V} {ds : List Value} {x m : Str} {p pos apos : Pos} {e o : Expr} {es : List Expr} {ta : TE} {t : TA}
theorem pe_methG {pl : Sem Bool} (ho : PE X o ta) (cl : Cls X.K C) (mt : Meth X.K C m f) (F : FnG X.prog X.w X.K X.mg X.base k f fd ps sp) (hgd : X.A.guards = some []) (hr : Room k X.A) (hb : Binds X.K fd ps ds) (hd : Vals dvs ds) (ha : PA X (e :: es) t)
    (hs : starEach (e :: es) X.env = (false, eval e X.env) :: starEach es X.env) (hp : (backTo pos (starEach es X.env)).any (·.1) = false)
    (ht : eval (.Call (.Attribute o m apos) (e :: es) [] pos) X.env = (do let ov ← eval o X.env; standAt apos.atName; let (f, first) ← holding [ov] (getMethod ov m pl); callWith pos f first (backTo pos (starEach (e :: es) X.env)) (backToKw pos (keywordEach [] X.env)))) :
    PE X (.Call (.Attribute o m apos) (e :: es) [] pos) (tMeth C m sp dvs E0 ta t) := by
  constructor
  intro pins s σ H Q I h
  refine PySem.W.methodCall_KW (pl := pl) (thn (ho.run pins s σ H _ I h) fun u1 sa ⟨y, Ha, Ia, ry, a, dx, fs, e1, e2, hl, q1⟩ => ?_) ht
  cases e1
  cases (show u1 = Value.ref a from ry)
  exact getmeth_ok Ia e2 cl mt hl (PySem.W.callWith_K (first := [Value.ref a]) (h₀ := X.base) Ia.ok.mod.kin mt.kp (thn (ha.run pos pins sa σ Ha _ Ia q1) fun us sb ⟨vs, Hb, Ib, rv, q2⟩ =>
    ⟨Ib.kIn, runG (us := .ref a :: us) (vs := .ref a :: vs) F hgd hr hb hd (fun er s' c => passL [] σ Hb sb er s' (Ib.pins_of fun _ z => nomatch z) c) Ib (.cons rfl rv) q2⟩) hs hp)
theorem pe_methG0 {pl : Sem Bool} (ho : PE X o ta) (cl : Cls X.K C) (mt : Meth X.K C m f) (F : FnG X.prog X.w X.K X.mg X.base k f fd ps sp) (hgd : X.A.guards = some []) (hr : Room k X.A) (hb : Binds X.K fd ps ds) (hd : Vals dvs ds)
    (ht : eval (.Call (.Attribute o m apos) [] [] pos) X.env = (do let ov ← eval o X.env; standAt apos.atName; let (f, first) ← holding [ov] (getMethod ov m pl); callWith pos f first (backTo pos (starEach [] X.env)) (backToKw pos (keywordEach [] X.env)))) :
    PE X (.Call (.Attribute o m apos) [] [] pos) (tMeth C m sp dvs E0 ta tNil) := by
  constructor
  intro pins s σ H Q I h
  refine PySem.W.methodCall_KW (pl := pl) (thn (ho.run pins s σ H _ I h) fun u1 sa ⟨y, Ha, Ia, ry, a, dx, fs, e1, e2, hl, q1⟩ => ?_) ht
  cases e1
  cases (show u1 = Value.ref a from ry)
  exact getmeth_ok Ia e2 cl mt hl (PySem.W.callWith_K0 (first := [Value.ref a]) Ia.kIn mt.kp (runG (us := [.ref a]) (vs := [.ref a]) F hgd hr hb hd (fun er s' c => passL [] σ Ha sa er s' (Ia.pins_of fun _ z => nomatch z) c) Ia (.cons rfl .nil) q1))
theorem run_makeG {pins : List (Addr × Obj)} {σ : L2.St} {H : Hp} {s : Shared} {Q : VK} {us : List Value} {vs : List V} {E : XK} (M : Mk X.K C f) (F : FnG X.prog X.w X.K X.mg X.base k f fd ps sp) (hgd : X.A.guards = some []) (hr : Room (k + 1) X.A) (hb : Binds X.K fd ps ds) (hd : Vals dvs ds)
    (hx : ∀ (e : Value) (s0 s' : Shared) (H0 : Hp), Inv X pins σ H0 s0 → L2.CX X.prog X.w X.stack H0 s0 E e s' → X.xe e s') (I : Inv X pins σ H s) (r : Vals vs us)
    (h : ∀ y dx, H y = none → H dx = none → dx ≠ y → sp (.ref y :: (vs ++ dvs)) (upd (upd H dx (.own y)) y (.ins C dx [])) (fun v H2 => v = .non ∧ Q (.ref y) H2) E) :
    wpAny (model X.prog X.w) X.A (call (.ref C) us) (EP X pins σ Q) X.xe s := by
  have Im := Inv.made (C := C) I
  have hh := h (s.heap.objs.size + 1) s.heap.objs.size (I.hok.fresh (Nat.le_succ _)) (I.hok.fresh (Nat.le_refl _)) (Nat.ne_of_lt (Nat.lt_succ_self _))
  have rr : Vals (.ref (s.heap.objs.size + 1) :: (vs ++ dvs)) (Value.ref (s.heap.objs.size + 1) :: (us ++ ds)) := .cons rfl (r.append hd)
  have hln : (Value.ref (s.heap.objs.size + 1) :: us ++ ds).length = ps.length := rr.length.symm.trans (F.len _ _ _ _ hh)
  refine wpAny_call (make_map (f := f) I.kIn M.makes M.init (beq_iff_eq.mp M.fn) (codeAny_mono (F.run _ X.stack _ _ ⟨.ref (s.heap.objs.size + 1) :: us, []⟩ (.ref (s.heap.objs.size + 1) :: (us ++ ds)) _ _ E hgd (hr.make C us []) (Im.env0.make C us []) (hb _ (.ref (s.heap.objs.size + 1) :: us) Im.kIn hln) rr hh) ?_))
  rintro (er | fl) s' hq
  · exact hx er _ s' _ Im hq
  · cases fl with
    | ret u =>
      obtain ⟨v, H2, I3, rv, ev, q3⟩ := Im.after hq
      cases ev
      exact ⟨rv, .ref (s.heap.objs.size + 1), H2, I3, rfl, q3⟩
    | _ => exact hq.elim
theorem pe_makeG (M : Mk X.K C f) (F : FnG X.prog X.w X.K X.mg X.base k f fd ps sp) (hgd : X.A.guards = some []) (hr : Room (k + 1) X.A) (hg : Gl X x) (hm : X.mg x = some (.ref C)) (hb : Binds X.K fd ps ds) (hd : Vals dvs ds)
    (ha : PA X (e :: es) t) (hdb : (x == ("__debug__" : Str)) = false) (he : starEach (e :: es) X.env = (false, eval e X.env) :: starEach es X.env) (hpl : (backTo pos (starEach es X.env)).any (·.1) = false) :
    PE X (.Call (.Name x p) (e :: es) [] pos) (tMake C sp dvs E0 t) := by
  constructor
  intro pins s σ H Q I h
  exact wpAny_Call_Name_kw (ld_glob I hg hm (PySem.W.callWith_K (h₀ := X.base) I.ok.mod.kin M.kp (thn (ha.run pos pins s σ H _ I h) fun us s1 ⟨vs, H1, I1, r, q⟩ => ⟨I1.kIn, run_makeG M F hgd hr hb hd (fun er s0 s' H0 I0 c => passL [] σ H0 s0 er s' (I0.pins_of fun _ z => nomatch z) c) I1 r q⟩) he hpl) hdb)
end
def putFD (f : Str) (d : D) : List (Str × D) → List (Str × D)
  | [] => [(f, d)]
  | (g, x) :: r => if g = f then (g, d) :: r else (g, x) :: putFD f d r
section
variable {K : Fg} {S : Hp}
theorem fld_get {f : Str} {d : D} : ∀ {vs : List (Str × V)} {fs : List (Str × D)}, vs.map Prod.fst = fs.map Prod.fst → Reps K S (vs.map Prod.snd) (fs.map Prod.snd) → fs.lookup f = some d → ∃ v, vs.lookup f = some v ∧ Rep K S v d
  | [], [], _, _, h => by cases h
  | [], _ :: _, h, _, _ => by cases h
  | _ :: _, [], h, _, _ => by cases h
  | (g, v) :: vs, (g', d') :: fs, hn, r, h => by
    rw [List.map_cons, List.map_cons, List.cons.injEq] at hn
    obtain ⟨h1, h2⟩ := hn
    have h1 : g = g' := h1
    subst h1
    cases r with
    | cons r1 r2 =>
      rw [List.lookup_cons] at h ⊢
      cases e : f == g with
      | true =>
        rw [e] at h
        cases h
        exact ⟨v, rfl, r1⟩
      | false =>
        rw [e] at h
        exact fld_get h2 r2 h
theorem fld_none {f : Str} : ∀ {vs : List (Str × V)} {fs : List (Str × D)}, vs.map Prod.fst = fs.map Prod.fst → fs.lookup f = none → vs.lookup f = none
  | [], [], _, _ => rfl
  | [], _ :: _, h, _ => by cases h
  | _ :: _, [], h, _ => by cases h
  | (g, v) :: vs, (g', d') :: fs, hn, h => by
    rw [List.map_cons, List.map_cons, List.cons.injEq] at hn
    obtain ⟨h1, h2⟩ := hn
    have h1 : g = g' := h1
    subst h1
    rw [List.lookup_cons] at h ⊢
    cases e : f == g with
    | true => rw [e] at h; cases h
    | false => rw [e] at h; exact fld_none h2 h
theorem fld_put {f : Str} {v : V} {d : D} (rv : Rep K S v d) : ∀ {vs : List (Str × V)} {fs : List (Str × D)}, vs.map Prod.fst = fs.map Prod.fst → Reps K S (vs.map Prod.snd) (fs.map Prod.snd) →
    (putF f v vs).map Prod.fst = (putFD f d fs).map Prod.fst ∧ Reps K S ((putF f v vs).map Prod.snd) ((putFD f d fs).map Prod.snd)
  | [], [], _, _ => ⟨rfl, .cons rv .nil⟩
  | [], _ :: _, h, _ => by cases h
  | _ :: _, [], h, _ => by cases h
  | (g, w) :: vs, (g', d') :: fs, hn, r => by
    rw [List.map_cons, List.map_cons, List.cons.injEq] at hn
    obtain ⟨h1, h2⟩ := hn
    have h1 : g = g' := h1
    subst h1
    cases r with
    | cons r1 r2 =>
      obtain ⟨i1, i2⟩ := fld_put rv h2 r2
      unfold putF putFD
      by_cases e : g = f
      · rw [if_pos e, if_pos e]
        exact ⟨by rw [List.map_cons, List.map_cons, h2], .cons rv r2⟩
      · rw [if_neg e, if_neg e]
        exact ⟨by rw [List.map_cons, List.map_cons, i1], .cons r1 i2⟩
end
end Q
set_option Elab.async false
set_option linter.all false
set_option maxRecDepth 100000
set_option maxHeartbeats 2000000
set_option autoImplicit false
namespace Q
open PySem PySem.Spec PyProof.Rows L2
def dObj (nm : Str) (f : Addr → List (Str × D) → Prop) : D → Prop
  | .obj n a fs => n = nm ∧ f a fs
  | _ => False
theorem e_dObj {nm : Str} {f : Addr → List (Str × D) → Prop} {a : Addr} {fs : List (Str × D)} : dObj nm f (.obj nm a fs) = f a fs := propext ⟨fun h => h.2, fun h => ⟨rfl, h⟩⟩
def lkF (fs : List (Str × D)) (f : Str) (k : D → Prop) : Prop := ∃ d, fs.lookup f = some d ∧ k d
theorem beq_self (f : Str) : (f == f) = true := by simp
theorem e_lkHit {f : Str} {d : D} {r : List (Str × D)} {k : D → Prop} : lkF ((f, d) :: r) f k = k d := by
  unfold lkF
  rw [List.lookup_cons, beq_self]
  exact ex_some
theorem e_pfHit {f : Str} {d x : D} {r : List (Str × D)} : putFD f d ((f, x) :: r) = (f, d) :: r := by
  unfold putFD; rw [if_pos rfl]
theorem e_pfNil {f : Str} {d : D} : putFD f d [] = [(f, d)] := rfl
section
variable {X : Cx} {g : Gd} {W : WX} {e a : Expr} {te ta : TE} {qe qa : TEq} {pos p : Pos} {c : Cg}
def qFld (nm f : Str) (qa : TEq) : TEq := fun env k x => qa env (fun y env1 => rd env1 y (dObj nm fun _ fs => lkF fs f (hold (fun d => k (.d d) env1) .mk))) x
theorem q_fld {nm f : Str} (na : NoAttr X.K (He.ga X.K nm) f) (ha : QE X g W e ta qa) (hb : attributeBase e f X.env (eval e X.env) = eval e X.env := by rfl) : QE X g W (.Attribute e f pos) (tFld X.K ta f) (qFld nm f qa) :=
  ⟨pe_fld ha.pe hb, fun N F P S b σ H env k x Q R hq hx hk => by
    refine ha.sm N F P S b σ H env _ x _ R hq hx fun S1 H1 env1 v y R1 e1 r1 h1 => ?_
    obtain ⟨d, hd, h2⟩ := h1
    have a1 := R1.read r1 hd
    cases a1 with
    | obj h n r x =>
      obtain ⟨rfl, dd, hl, h3⟩ := h2
      obtain ⟨v', hv', rv⟩ := fld_get n r hl
      exact ⟨_, _, _, _, v', rfl, h, x.cl, na, hv', hk S1 H1 env1 v' (.d dd) R1 e1 rv h3⟩
    | _ => exact h2.elim⟩
theorem e_fld {nm f : Str} {env : En} {k : Va → En → Prop} {x : XQ} : qFld nm f qa env k x = qa env (fun y env1 => rd env1 y (dObj nm fun _ fs => lkF fs f (hold (fun d => k (.d d) env1) .mk))) x := rfl
def qFPut (i : Nat) (nm f : Str) (qe : TEq) : TSq := fun DQ env => qe env (fun w env1 => (∃ d0, env1[i]? = some (.own d0)) ∧ sh1C env1 w fun d env2 => lk env2 i (sO (dObj nm fun a fs => fs.length < 1000 ∧ st env2 i (.own (.obj nm a (putFD f d fs))) DQ.nx))) DQ.ex
theorem lk_own {env : En} {i : Nat} {f : D → Prop} (h : lk env i (sO f)) : ∃ d, env[i]? = some (.own d) ∧ f d := by rw [← lk_O] at h; exact h
theorem dObj_ex {nm : Str} {f : Addr → List (Str × D) → Prop} {d : D} (h : dObj nm f d) : ∃ a fs, d = .obj nm a fs ∧ f a fs := by
  cases d with
  | obj n a fs => obtain ⟨rfl, h⟩ := h; exact ⟨a, fs, rfl, h⟩
  | _ => exact h.elim
theorem sm_fput {i : Nat} {nm f : Str} (na : NoAttr c.K (He.ga c.K nm) f) (hv : Sm c W ta qa) : SmS c W (sFld c.K (tVar i) ta f) (qFPut i nm f qa) := by
  intro F P S b σ H env DQ D R hq k
  refine hv F P S b σ H env _ _ _ R hq k.ex fun S1 H1 env1 w y R1 e1 r1 h1 => ?_
  obtain ⟨_, d, env2, hs, h2⟩ := h1
  obtain ⟨S2, R2, e2, r2⟩ := sh1_ok R1 r1 hs
  obtain ⟨d', hi, h3⟩ := lk_own h2
  obtain ⟨a, fs, rfl, hl, h4⟩ := dObj_ex h3
  obtain ⟨v, hv', hso⟩ := R2.slot hi
  cases v with
  | none => exact hso.elim
  | some v =>
    obtain ⟨p, rfl, b1, b2, b3, ho⟩ := hso
    cases ho with
    | obj h n r x =>
      have z := fld_put (f := f) r2 n r
      exact ⟨_, hv', _, _, _, _, rfl, h, x.cl, na, by have := congrArg List.length n; rw [List.length_map, List.length_map] at this; omega, k.nx S2 σ _ _ (R2.write hv' hi (.obj upd_same z.1 z.2 x)) (e1.trans e2) h4⟩
theorem qs_fput {i : Nat} {nm f x : Str} {pos' : Pos} (na : NoAttr X.K (He.ga X.K nm) f) (hN : X.N[i]? = some x) (hv : Vis X.env.scope x) (ha : QE X g W a ta qa) (hd : (x == ("__debug__" : Str)) = false := by decide) (hcd : (x == ("__classdict__" : Str)) = false := by decide)
    (hs : swapsWith a (some (.Attribute (.Name x p) f pos')) pos.line X.env = pure false := by rfl) : QS X g W (.Assign [.Attribute (.Name x p) f pos'] a pos) (sFld X.K (tVar i) ta f) (qFPut i nm f qa) :=
  ⟨ps_fld (pe_var hN hv hd hcd) ha.pe hs, fun N => sm_fput na (ha.sm N)⟩
theorem e_fput {i : Nat} {nm f : Str} {DQ : Ens} {env : En} : qFPut i nm f qa DQ env = qa env (fun w env1 => lk env1 i ownA ∧ sh1C env1 w fun d env2 => lk env2 i (sO (dObj nm fun a fs => fs.length < 1000 ∧ st env2 i (.own (.obj nm a (putFD f d fs))) DQ.nx))) DQ.ex := by
  unfold qFPut
  congr
  funext w env1
  rw [lk_A]
end
abbrev SpqM := Addr → List (Str × D) → List Ar → (List (Str × D) → D → Prop) → (Str → List D → Prop) → Prop
def spM (K : Fg) (mg : Str → Option Value) (g : Gd) (nm : Str) (sp : SpqM) : Sp := fun vs H Q E => ∃ (N : Nat) (F S : Hp) (b : Option Addr) (p : Addr) (ws : List V) (fs : List (Str × D)) (as : List Ar) (k : List (Str × D) → D → Prop) (x : Str → List D → Prop),
  vs = .ref p :: ws ∧ Same F H ∧ Same S H ∧ Bg ⟨K, mg, g, N⟩ F S H b (abud as) ∧ (F p = none ∧ S p = none ∧ b ≠ some p ∧ OwnAt K S H p (.obj nm p fs)) ∧ ArsOk K F S b ws as ∧ sp p fs as k x ∧
  (∀ (v : V) (S' H' : Hp) (fs' : List (Str × D)) (r : D), Same F H' → Same S' H' → Ext F S S' → Bg ⟨K, mg, g, N⟩ F S' H' b 0 → S' p = none → OwnAt K S' H' p (.obj nm p fs') → Rep K S' v r → k fs' r → Q v H') ∧
  (∀ (n2 : Str) (pay : List D) (C : Addr) (d : Option Addr) (S' H' : Hp), Same F H' → Same S' H' → Ext F S S' → Bg ⟨K, mg, g, N⟩ F S' H' b 0 → S' p = none → OwnAt K S' H' p (.obj nm p fs) → x n2 pay → mg n2 = some (.ref C) → PayOk K S' H' d pay → E (.ref C) d H')
def startM (nm : Str) (p : Addr) (fs : List (Str × D)) (N : List Str) (as : List Ar) : En := .own (.obj nm p fs) :: startE N.tail as
theorem e_startM {nm x : Str} {p : Addr} {fs : List (Str × D)} {N : List Str} {as : List Ar} : startM nm p fs (x :: N) as = .own (.obj nm p fs) :: startE N as := rfl
section
variable {c : Cg} {F P S H : Hp} {b : Option Addr} {σ : L2.St} {env : En} {p : Addr} {d : D}
theorem Rel.cons (R : Rel c F P S b σ H env) (hp : P p = none) (hs : S p = none) (hb : b ≠ some p) (ho : OwnAt c.K S H p d) (hn : ∀ (i : Nat) (e : D), env[i]? ≠ some (.own e)) : Rel c F P S b (some (.ref p) :: σ) H (.own d :: env) := by
  refine ⟨by rw [List.length_cons, List.length_cons, R.len], R.fp, R.ph, R.sh, fun q e => ?_, fun i s v h1 h2 => ?_, fun i j q e e' hij h1 h2 h3 h4 => ?_⟩
  · obtain ⟨z1, z2, z3⟩ := R.bg q e
    exact ⟨z1, z2, z3.mono (Same.refl _) rfl (by show 0 + bud env ≤ bud env; omega)⟩
  · cases i with
    | zero =>
      rw [List.getElem?_cons_zero] at h1 h2
      cases h1; cases h2
      exact ⟨p, rfl, hp, hs, hb, ho⟩
    | succ i => exact R.sl i s v (by simpa using h1) (by simpa using h2)
  · cases i with
    | zero =>
      cases j with
      | zero => exact hij rfl
      | succ j => exact hn j e' (by simpa using h4)
    | succ i => exact hn i e (by simpa using h2)
theorem start_own (N : List Str) (as : List Ar) (i : Nat) (e : D) : (startE N as)[i]? ≠ some (.own e) := fun z => by
  unfold startE at z
  rcases List.mem_append.mp (List.mem_of_getElem? z) with m | m
  · obtain ⟨a, _, q⟩ := List.mem_map.mp m
    cases a <;> cases q
  · cases (List.mem_replicate.mp m).2
end
def mEnds (nm : Str) (p : Addr) (fs : List (Str × D)) (k : List (Str × D) → D → Prop) (x : Str → List D → Prop) : Ens :=
  { nx := fun env => lk env 0 (sO (dObj nm fun a f2 => a = p ∧ k f2 .non)), rt := fun r env => lk env 0 (sO (dObj nm fun a f2 => a = p ∧ ∃ d, r = .sh d ∧ k f2 d)), ex := fun n2 pay env => lk env 0 (sO (fun d => d = .obj nm p fs)) ∧ x n2 pay }
theorem fn_qM {P : Program} {w : World} {K : Fg} {mg : Str → Option Value} {base : Heap} {x qual y0 : Str} {params : Arguments} {body : List Stmt} {scope : Scope} {dvs : List V} {kws : List (Str × V)} {f : Addr} {fd : FuncData} {N ps : List Str} {k : Nat} {nm : Str} {sp : SpqM} (g : Gd)
    (Fn : FunD K x qual params body scope dvs kws f fd) (Sc : FnScope (y0 :: N) ps scope) (hl : ps.length ≤ (y0 :: N).length) (len : ∀ p fs as k x, sp p fs as k x → as.length + 1 = ps.length)
    (hbody : ∀ (cdv : Value) (A : Around) (outer : List Env) (s : Shared) (H : Hp) (E : XK), A.guards = some [] → Room k (A.deeper (envOfC qual scope s.heap.objs.size f cdv)) →
      ∃ t q, QSs (cxOf (L2.CX P w) P w K mg base (y0 :: N) qual scope f cdv A outer s H E) g (fun cls d _ H => E cls d H) body t q ∧
        ∀ p fs as k x, sp p fs as k x → q (mEnds nm p fs k x) (startM nm p fs (y0 :: N) as)) : FnG P w K mg base (k + 1) f fd ps (spM K mg g nm sp) := by
  obtain ⟨oc, od, dV, kV, doc, pm, an, cdv, ct, osl, rfl, lk0, hcd, _, _⟩ := Fn.ex
  refine fnG_of lk0 hcd Sc (fun vs H Q E h => ?_) fun A outer s H vs Q E hgd hr h => ?_
  · obtain ⟨_, F, S, b, p, ws, fs, as, k, x, rfl, _, _, _, _, h4, h5, _⟩ := h
    rw [List.length_cons, h4.length]
    exact len p fs as k x h5
  · obtain ⟨t, q, ht, hq⟩ := hbody cdv A outer s H E hgd hr
    refine ⟨t, ht.pss, ?_⟩
    obtain ⟨M, F, S, b, p, ws, fs, as, k, x, rfl, hF, hS, hb, ⟨m1, m2, m3, m4⟩, h4, h5, h6, h7⟩ := h
    have lo : ∀ {S' H' : Hp} {E : En}, (∀ p, b = some p → F p = none ∧ S' p = none ∧ BagAt ⟨K, mg, g, M⟩ S' H' p (bud E)) → Bg ⟨K, mg, g, M⟩ F S' H' b 0 := fun z p e => ⟨(z p e).1, (z p e).2.1, (z p e).2.2.mono (Same.refl _) rfl (Nat.zero_le _)⟩
    have hlen := len p fs as k x h5
    have R0 := rel_start (c := ⟨K, mg, g, M⟩) (N := N) hF hS hb h4 (by rw [List.length_cons] at hl; omega)
    have R1 := R0.cons m1 m2 m3 m4 (start_own N as)
    have es : L2.start (y0 :: N) (V.ref p :: ws) = some (V.ref p) :: L2.start N ws := by
      unfold L2.start
      rw [List.map_cons, List.length_cons, List.length_cons, Nat.add_sub_add_right]; rfl
    have back : ∀ {S' H' : Hp} {σ' : L2.St} {env' : En} {f : D → Prop}, Rel ⟨K, mg, g, M⟩ F F S' b σ' H' env' → lk env' 0 (sO f) → ∃ q d, S' q = none ∧ OwnAt K S' H' q d ∧ f d := fun {S' H' σ' env' f} R' hk => by
      obtain ⟨d, hd, hf⟩ := lk_own hk
      obtain ⟨v, hv, hso⟩ := R'.slot hd
      cases v with
      | none => exact hso.elim
      | some v =>
        obtain ⟨q, _, _, b2, _, ho⟩ := hso
        exact ⟨q, d, b2, ho, hf⟩
    have atp : ∀ {S' H' : Hp} {q : Addr} {f2 : List (Str × D)}, OwnAt K S' H' q (.obj nm p f2) → q = p := fun h => by cases h; rfl
    rw [es]
    refine ht.sm M F F S b _ H _ _ _ R1 (hq p fs as k x h5) ⟨fun S' σ' H' env' R' e' hk => ?_, fun S' σ' H' env' v r R' e' ro hk => ?_, fun _ _ _ _ _ _ z => z.elim, fun _ _ _ _ _ _ z => z.elim, fun n2 pay env' S' σ' H' C d R' e' hx hm hp => ?_⟩
    · obtain ⟨q, d, b2, ho, hf⟩ := back R' hk
      obtain ⟨a, f2, rfl, rfl, hk2⟩ := dObj_ex hf
      cases atp ho
      exact h6 .non S' H' f2 .non R'.ph R'.sh e' (lo R'.bg) b2 ho Rep.non hk2
    · obtain ⟨q, d, b2, ho, hf⟩ := back R' hk
      obtain ⟨a, f2, rfl, rfl, dd, rfl, hk2⟩ := dObj_ex hf
      cases atp ho
      exact h6 v S' H' f2 dd R'.ph R'.sh e' (lo R'.bg) b2 ho ro hk2
    · obtain ⟨q, d2, b2, ho, rfl⟩ := back R' hx.1
      cases atp ho
      exact h7 n2 pay C d S' H' R'.ph R'.sh e' (lo R'.bg) b2 ho hx.2 hm hp
theorem e_mnx {nm : Str} {p : Addr} {fs : List (Str × D)} {k : List (Str × D) → D → Prop} {x : Str → List D → Prop} {env : En} : (mEnds nm p fs k x).nx env = lk env 0 (sO (dObj nm fun a f2 => a = p ∧ k f2 .non)) := rfl
theorem e_mrt {nm : Str} {p : Addr} {fs : List (Str × D)} {k : List (Str × D) → D → Prop} {x : Str → List D → Prop} {env : En} {r : Rv} : (mEnds nm p fs k x).rt r env = lk env 0 (sO (dObj nm fun a f2 => a = p ∧ ∃ d, r = .sh d ∧ k f2 d)) := rfl
theorem e_mex {nm n2 : Str} {p : Addr} {fs : List (Str × D)} {k : List (Str × D) → D → Prop} {x : Str → List D → Prop} {env : En} {pay : List D} : (mEnds nm p fs k x).ex n2 pay env = (lk env 0 (sO (fun d => d = .obj nm p fs)) ∧ x n2 pay) := rfl
end Q
set_option Elab.async false
set_option linter.all false
set_option maxRecDepth 100000
set_option maxHeartbeats 2000000
set_option autoImplicit false
namespace Q
open PySem PySem.Spec PyProof.Rows L2
def lendM (b : Option Addr) (p : Addr) (H : Hp) : Hp := fun a => if a = p then none else lend b H a
section
variable {c : Cg} {F P S S' H H' X : Hp} {b : Option Addr} {σ : L2.St} {env env2 : En} {v : V} {y : Va} {d d0 : D} {p : Addr} {i : Nat}
theorem lendM_same : Same (lendM b p H) H := fun a o e => by
  unfold lendM at e
  split at e
  · cases e
  · exact lend_same a o e
theorem lendM_p : lendM b p H p = none := by unfold lendM; rw [if_pos rfl]
theorem lendM_ne {a : Addr} (h : a ≠ p) : lendM b p H a = lend b H a := by unfold lendM; rw [if_neg h]
theorem same_lendM (h : Same X (lend b H)) (hp : X p = none) : Same X (lendM b p H) := fun a o e => by
  rw [lendM_ne (fun z => by subst z; rw [hp] at e; cases e)]
  exact h a o e
theorem Rel.borAtM (R : Rel c F P S b σ H env) (h1 : σ[i]? = some (some (.ref p))) (h2 : env[i]? = some (.own d0)) (r : RV c.K S σ b v y) (hy : y ≠ .ptr i) (e : res env y = some d) : At c.K S (lendM b p H) v d := by
  obtain ⟨q1, q2, q3, q4⟩ := R.ownAt h1 h2
  have sS : Same S (lendM b p H) := same_lendM R.sLend q2
  cases y with
  | d d' => cases e; exact .of_rep sS r
  | bag _ => cases e
  | ptr j =>
    have r' : σ[j]? = some (some v) := r
    have e : (env[j]?).bind slotD = some d := e
    have nj : i ≠ j := fun z => hy (by rw [z])
    cases h : env[j]? with
    | none => rw [h] at e; cases e
    | some s =>
      rw [h] at e
      have hs := R.sl j s _ h r'
      cases s with
      | no => cases e
      | bag _ => cases e
      | sh d' => cases e; exact .of_rep sS hs
      | bor d' => cases e; exact At.mono (Same.refl _) (same_lendM (R.fp.trans R.pLend) (R.fp.free q1)) hs
      | own d' =>
        cases e
        obtain ⟨q, rfl, _, _, hb, ho⟩ := hs
        exact (ho.mono (Same.refl _) ((lendM_ne fun z => R.ap i j p _ _ nj h1 h2 (by rw [← z]; exact r') h).trans (lend_ne hb))).at
theorem sh1_keep {d' : D} (h : sh1 env y = some (d', env2)) (hy : y ≠ .ptr i) : env2[i]? = env[i]? := by
  cases y with
  | bag _ => cases h
  | d d' => cases h; rfl
  | ptr j =>
    have nj : j ≠ i := fun z => hy (by rw [z])
    unfold sh1 at h
    simp only at h
    cases e : env[j]? with
    | none => rw [e] at h; cases h
    | some s =>
      rw [e] at h
      cases s with
      | no => cases h
      | bag _ => cases h
      | sh d' => cases h; rfl
      | own d' => cases h; exact List.getElem?_set_ne nj
      | bor d' =>
        simp only at h
        split at h
        · cases h; rfl
        · cases h
theorem arg1M_ok {m : Md} {a : Ar} (R : Rel c F P S b σ H env) (h1 : σ[i]? = some (some (.ref p))) (h2 : env[i]? = some (.own d0)) (r : RV c.K S σ b v y) (hy : y ≠ .ptr i) (h : arg1 env m y = some (a, env2)) :
    ∃ S2, Rel c F P S2 b σ H env2 ∧ Ext P S S2 ∧ ArOk c.K (lendM b p H) S2 b v a ∧ bud env2 + aw a ≤ bud env ∧ env2[i]? = some (.own d0) := by
  cases m with
  | bor =>
    cases e : res env y with
    | none => simp [arg1, e] at h
    | some d =>
      simp [arg1, e] at h
      obtain ⟨rfl, rfl⟩ := h
      exact ⟨S, R, Ext.refl, R.borAtM h1 h2 r hy e, Nat.le_refl _, h2⟩
  | sh =>
    obtain ⟨S2, R2, x2, q2, b2⟩ := arg1_ok R r h
    cases e : sh1 env y with
    | none => simp [arg1, e] at h
    | some z =>
      obtain ⟨d, env3⟩ := z
      simp [arg1, e] at h
      obtain ⟨rfl, rfl⟩ := h
      exact ⟨S2, R2, x2, q2, b2, (sh1_keep e hy).trans h2⟩
  | bag m =>
    obtain ⟨S2, R2, x2, q2, b2⟩ := arg1_ok R r h
    cases y with
    | d d => cases h
    | ptr i => cases h
    | bag j =>
      unfold arg1 at h
      simp only at h
      cases e : env[j]? with
      | none => rw [e] at h; cases h
      | some s =>
        rw [e] at h
        cases s with
        | no => cases h
        | sh _ => cases h
        | own _ => cases h
        | bor _ => cases h
        | bag n =>
          simp only at h
          split at h
          · cases h
            have nj : j ≠ i := fun z => by subst z; rw [h2] at e; cases e
            exact ⟨S2, R2, x2, q2, b2, (List.getElem?_set_ne nj).trans h2⟩
          · cases h
def np (i : Nat) : List Va → Prop
  | [] => True
  | .ptr j :: r => (if j = i then False else np i r)
  | _ :: r => np i r
theorem np_cons {ys : List Va} (h : np i (y :: ys)) : y ≠ .ptr i ∧ np i ys := by
  cases y with
  | ptr j =>
    have h : (if j = i then False else np i ys) := h
    by_cases e : j = i
    · rw [if_pos e] at h; exact h.elim
    · rw [if_neg e] at h; exact ⟨fun z => e (by cases z; rfl), h⟩
  | d d => exact ⟨(fun z => nomatch z), h⟩
  | bag j => exact ⟨(fun z => nomatch z), h⟩
theorem e_npN : np i [] = True := rfl
theorem e_npD {ys : List Va} : np i (.d d :: ys) = np i ys := rfl
theorem e_npB {ys : List Va} {j : Nat} : np i (.bag j :: ys) = np i ys := rfl
theorem e_npP {ys : List Va} {j : Nat} : np i (.ptr j :: ys) = (if j = i then False else np i ys) := rfl
theorem argsM_ok : ∀ {ms : List Md} {vs : List V} {ys : List Va} {S : Hp} {env env2 : En} {as : List Ar}, Rel c F P S b σ H env → σ[i]? = some (some (.ref p)) → env[i]? = some (.own d0) → RVs c.K S σ b vs ys → np i ys → args ms ys env = some (as, env2) →
    ∃ S2, Rel c F P S2 b σ H env2 ∧ Ext P S S2 ∧ ArsOk c.K (lendM b p H) S2 b vs as ∧ bud env2 + abud as ≤ bud env ∧ env2[i]? = some (.own d0)
  | [], _, _, S, env, _, _, R, _, h2, .nil, _, h => by cases h; exact ⟨S, R, Ext.refl, .nil, Nat.le_refl _, h2⟩
  | [], _, _, _, _, _, _, _, _, _, .cons _ _, _, h => by cases h
  | _ :: _, _, _, _, _, _, _, _, _, _, .nil, _, h => by cases h
  | m :: ms, _, _, S, env, env2, as, R, h1, h2, .cons (y := y) (ys := ys) (vs := vs) r rs, hn, h => by
    obtain ⟨n1, n2⟩ := np_cons hn
    unfold args at h
    cases e : arg1 env m y with
    | none => rw [e] at h; cases h
    | some q =>
      rw [e] at h
      obtain ⟨a, env1⟩ := q
      obtain ⟨S1, R1, x1, q1, b1, i1⟩ := arg1M_ok R h1 h2 r n1 e
      cases e2 : args ms ys env1 with
      | none => simp [e2] at h
      | some z =>
        obtain ⟨as', env3⟩ := z
        simp [e2] at h
        obtain ⟨rfl, rfl⟩ := h
        obtain ⟨S2, R2, x2, q2, b2, i2⟩ := argsM_ok R1 h1 i1 (rs.mono x1.1) n2 e2
        exact ⟨S2, R2, x1.trans x2, .cons (q1.mono x2.1) q2, by show _ + (aw a + abud as') ≤ _; omega, i2⟩
theorem Rel.afterM {d1 : D} (R : Rel c F P S b σ H env) (hi : σ[i]? = some (some (.ref p))) (hd : env[i]? = some (.own d0)) (h1 : Same (lendM b p H) H') (h2 : Same S' H') (h3 : Ext (lendM b p H) S S') (h4 : Bg ⟨c.K, c.mg, c.g, c.N - bud env⟩ (lendM b p H) S' H' b 0) (h5 : S' p = none) (h6 : OwnAt c.K S' H' p d1) :
    Rel c F P S' b σ H' (env.set i (.own d1)) ∧ Ext P S S' := by
  obtain ⟨q1, q2, q3, q4⟩ := R.ownAt hi hd
  have other : ∀ (j : Nat) (q : Addr) (e : D), σ[j]? = some (some (.ref q)) → (env.set i .no)[j]? = some (.own e) → q ≠ p ∧ env[j]? = some (.own e) := fun j q e g1 g2 => by
    rcases getElem?_set' g2 with ⟨_, z, _⟩ | ⟨nj, z⟩
    · cases z
    · exact ⟨fun w => by subst w; exact R.ap i j q d0 e (fun z => nj z.symm) hi hd g1 z, z⟩
  have hext : Ext P S S' := ⟨h3.1, fun a e1 e2 => h3.2 a e1 (by
    cases e : P a with
    | none => exact absurd e e2
    | some o =>
      rw [lendM_ne (fun z => by subst z; rw [q1] at e; cases e), R.pLend a o e]; simp)⟩
  have bz : bud (env.set i .no) ≤ bud env := bud_le env i .no rfl
  have R1 : Rel c F P S' b σ H' (env.set i .no) := by
    refine (R.drop i).to h3.1 ((same_lendM R.pLend q1).trans h1) h2 (fun j q e g1 g2 => ?_) fun q e => ⟨(h4 q e).2.1, ?_⟩
    · obtain ⟨nq, g3⟩ := other j q e g1 g2
      obtain ⟨_, hs, hb, ho⟩ := R.ownAt g1 g3
      obtain ⟨o, hp⟩ := ho.some
      have hl : lendM b p H q = some o := (lendM_ne nq).trans ((lend_ne hb).trans hp)
      exact ⟨h3.2 q hs (by rw [hl]; simp), (h1 q o hl).trans hp.symm⟩
    · obtain ⟨_, _, xs, ds, g1, g2, g3, g4, g5⟩ := h4 q e
      obtain ⟨_, _, _, _, _, _, _, k4, k5⟩ := R.bg q e
      exact ⟨xs, ds, g1, g2, g3, by have z : c.g.cnt ds + 0 ≤ c.N - bud env := g4; omega, k5⟩
  have R2 := R1.regain (d := d1) hi q1 h5 q3 h6 fun j e nj g1 g2 => (other j p e g1 g2).1 rfl
  rw [List.set_set] at R2
  exact ⟨R2, hext⟩
end
structure MCal (P : Program) (w : World) (K : Fg) (mg : Str → Option Value) (base : Heap) (g : Gd) (k : Nat) (nm m : Str) (dds : List D) (sp : SpqM) : Prop where
  ex : ∃ (f : Addr) (fd : FuncData) (ps : List Str) (ds : List Value), FnG P w K mg base k f fd ps (spM K mg g nm sp) ∧ Meth K (He.ga K nm) m f ∧ Binds K fd ps ds ∧ Vals (dds.map sV) ds ∧ flats dds = true
structure RCal (P : Program) (w : World) (K : Fg) (mg : Str → Option Value) (base : Heap) (g : Gd) (k : Nat) (nm m : Str) (dds : List D) (sp : Spq) : Prop where
  ex : ∃ (f : Addr) (fd : FuncData) (ps : List Str) (ds : List Value), FnG P w K mg base k f fd ps (spQ K mg g sp) ∧ Meth K (He.ga K nm) m f ∧ Binds K fd ps ds ∧ Vals (dds.map sV) ds ∧ flats dds = true
structure ICal (P : Program) (w : World) (K : Fg) (mg : Str → Option Value) (base : Heap) (g : Gd) (k : Nat) (nm : Str) (dds : List D) (sp : SpqM) : Prop where
  ex : ∃ (f : Addr) (fd : FuncData) (ps : List Str) (ds : List Value), FnG P w K mg base k f fd ps (spM K mg g nm sp) ∧ Mk K (He.ga K nm) f ∧ mg nm = some (.ref (He.ga K nm)) ∧ Binds K fd ps ds ∧ Vals (dds.map sV) ds ∧ flats dds = true ∧ ClT K nm
section
variable {X : Cx} {g : Gd} {W : WX} {e o : Expr} {es : List Expr} {to_ : TE} {qo : TEq} {tl : TA} {ql : TAq} {pos p apos : Pos} {c : Cg} {k j : Nat} {nm m x : Str} {dds : List D} {sp : SpqM} {sq : Spq} {ms : List Md}
def qCallM (i : Nat) (nm m : Str) (ms : List Md) (dds : List D) (sp : SpqM) (ql : TAq) : TEq := fun env k x => lk env i (sO (dObj nm fun _ fs0 => fs0.lookup m = none ∧ ql env (fun ys env1 => np i ys ∧ argsC ms ys env1 fun as env2 => apC as dds fun as' => lk env2 i (sO (dObj nm fun a fs =>
  sp a fs as' (hold (fun f2 r => st env2 i (.own (.obj nm a f2)) (k (.d r))) .mk) fun _ _ => False))) x))
theorem apC_eq {as : List Ar} {ds : List D} {f : List Ar → Prop} (h : apC as ds f) : f (as ++ ds.map .bor) := h
theorem sm_callM {i : Nat} (hd : flats dds = true) (ha : SmA c W tl ql) : Sm c W (tMeth (He.ga c.K nm) m (spM c.K c.mg c.g nm sp) (dds.map sV) E0 (tVar i) tl) (qCallM i nm m ms dds sp ql) := by
  intro F P S b σ H env k x Q R hq hx hk
  obtain ⟨d, hdi, hq⟩ := lk_own hq
  obtain ⟨a, fs0, rfl, hm, hq⟩ := dObj_ex hq
  obtain ⟨v, hv, hso⟩ := R.slot hdi
  cases v with
  | none => exact hso.elim
  | some v =>
  obtain ⟨p, rfl, p1, p2, p3, ho⟩ := hso
  cases ho with
  | @obj dx nm vs fs hH hn hr hx0 =>
  refine ⟨.ref a, hv, a, dx, vs, rfl, hH, fld_none hn hm, ?_⟩
  refine ha F P S b σ H env _ x _ R hq hx fun S1 H1 env1 us ys R1 e1 r1 h1 => ?_
  obtain ⟨hnp, as, env2, has, h2⟩ := h1
  have h2 := apC_eq h2
  obtain ⟨d3, hd3, h5⟩ := lk_own h2
  obtain ⟨a3, fs3, rfl, h6⟩ := dObj_ex h5
  -- slot i is an own instance ahead of the arguments' binding, too
  obtain ⟨S2', R2', _, _⟩ := args_ok R1 r1 has
  have own1 : ∃ d1, env1[i]? = some (.own d1) := args_own has hd3
  obtain ⟨d1, hd1⟩ := own1
  obtain ⟨S2, R2, e2, r2, bl, i2⟩ := argsM_ok R1 hv hd1 r1 hnp has
  obtain ⟨z1, z2, z3, z4⟩ := R2.ownAt hv hd3
  have ea : a3 = a := by cases z4; rfl
  rw [ea] at z4 h6 hd3
  have bg2 : Bg ⟨c.K, c.mg, c.g, c.N - bud env2⟩ (lendM b a H1) S2 H1 b (abud as) := fun q e => by
    obtain ⟨_, n2, _⟩ := R2.bg q e
    obtain ⟨_, _, xs, ds, g1, g2, g3, g4, g5⟩ := R1.bg q e
    refine ⟨by unfold lendM; split; rfl; exact lend_b e, n2, xs, ds, g1, g2.mono e2.1, g3, ?_, by show c.N - bud env2 ≤ _; omega⟩
    show c.g.cnt ds + abud as ≤ c.N - bud env2
    omega
  refine ⟨c.N - bud env2, lendM b a H1, S2, b, a, _, fs3, as ++ dds.map .bor, _, _, rfl, lendM_same, R2.sh, by rw [abud_append, abud_bor]; exact bg2, ⟨lendM_p, z2, z3, z4⟩, r2.append (dds_ok hd), h6, fun v S' H' fs' r s1 s2 s3 s4 s5 s6 s7 s8 => ?_, fun _ _ _ _ _ _ _ _ _ _ _ _ z => False.elim z⟩
  obtain ⟨R3, e3⟩ := R2.afterM hv hd3 s1 s2 s3 s4 s5 s6
  exact hk S' H' _ v (.d r) R3 (e1.trans (e2.trans e3)) s7 s8
where
  args_own {i : Nat} : ∀ {ms : List Md} {ys : List Va} {env env2 : En} {as : List Ar} {d : D}, args ms ys env = some (as, env2) → env2[i]? = some (.own d) → ∃ d1, env[i]? = some (.own d1)
    | [], [], _, _, _, d, h, h2 => by cases h; exact ⟨d, h2⟩
    | [], _ :: _, _, _, _, _, h, _ => by cases h
    | _ :: _, [], _, _, _, _, h, _ => by cases h
    | m :: ms, y :: ys, env, env2, as, d, h, h2 => by
      unfold args at h
      cases e : arg1 env m y with
      | none => rw [e] at h; cases h
      | some q =>
        rw [e] at h
        obtain ⟨a, env1⟩ := q
        cases e2 : args ms ys env1 with
        | none => simp [e2] at h
        | some z =>
          obtain ⟨as', env3⟩ := z
          simp [e2] at h
          obtain ⟨rfl, rfl⟩ := h
          obtain ⟨d1, hd1⟩ := args_own e2 h2
          have stp : ∀ (j : Nat) (s : Sl), env1 = env.set j s → (∀ d, s ≠ .own d) → ∃ d1, env[i]? = some (.own d1) := fun j s hj hs => by
            rw [hj] at hd1
            rcases getElem?_set' hd1 with ⟨_, z, _⟩ | ⟨_, z⟩
            · exact absurd z.symm (hs _)
            · exact ⟨_, z⟩
          cases m with
          | bor =>
            cases er : res env y with
            | none => simp [arg1, er] at e
            | some d =>
              simp [arg1, er] at e
              obtain ⟨_, rfl⟩ := e
              exact ⟨_, hd1⟩
          | sh =>
            cases er : sh1 env y with
            | none => simp [arg1, er] at e
            | some z =>
              obtain ⟨dd, ev⟩ := z
              simp [arg1, er] at e
              obtain ⟨_, rfl⟩ := e
              cases y with
              | bag _ => cases er
              | d d' => cases er; exact ⟨_, hd1⟩
              | ptr j =>
                unfold sh1 at er
                simp only at er
                cases ej : env[j]? with
                | none => rw [ej] at er; cases er
                | some s =>
                  rw [ej] at er
                  cases s with
                  | no => cases er
                  | bag _ => cases er
                  | sh d' => cases er; exact ⟨_, hd1⟩
                  | own d' => cases er; exact stp j _ rfl (fun _ z => nomatch z)
                  | bor d' =>
                    simp only at er
                    split at er
                    · cases er; exact ⟨_, hd1⟩
                    · cases er
          | bag n =>
            cases y with
            | d d => cases e
            | ptr i => cases e
            | bag j =>
              unfold arg1 at e
              simp only at e
              cases ej : env[j]? with
              | none => rw [ej] at e; cases e
              | some s =>
                rw [ej] at e
                cases s with
                | bag n2 =>
                  simp only at e
                  split at e
                  · cases e; exact stp j _ rfl (fun _ z => nomatch z)
                  · cases e
                | _ => cases e
end
end Q
set_option Elab.async false
set_option linter.all false
set_option maxRecDepth 100000
set_option maxHeartbeats 2000000
set_option autoImplicit false
namespace Q
open PySem PySem.Spec PyProof.Rows L2
section
variable {X : Cx} {g : Gd} {W : WX} {e o : Expr} {es : List Expr} {to_ : TE} {qo : TEq} {tl : TA} {ql : TAq} {pos p apos : Pos} {c : Cg} {k j : Nat} {nm m x : Str} {dds : List D} {sp : SpqM} {sq : Spq} {ms : List Md}
theorem q_callM {i : Nat} {pl : Sem Bool} (ms : List Md) (cl : ClT X.K nm) (mc : MCal X.prog X.w X.K X.mg X.base g k nm m dds sp) (hgd : X.A.guards = some []) (hr : Room j X.A) (hk : k ≤ j) (hN : X.N[i]? = some x) (hv : Vis X.env.scope x) (ha : QA X g W (e :: es) tl ql)
    (hd : (x == ("__debug__" : Str)) = false := by decide) (hcd : (x == ("__classdict__" : Str)) = false := by decide)
    (hs : starEach (e :: es) X.env = (false, eval e X.env) :: starEach es X.env := by rfl) (hp : (backTo pos (starEach es X.env)).any (·.1) = false := by rfl)
    (ht : eval (.Call (.Attribute (.Name x p) m apos) (e :: es) [] pos) X.env = (do let ov ← eval (.Name x p) X.env; standAt apos.atName; let (f, first) ← holding [ov] (getMethod ov m pl); callWith pos f first (backTo pos (starEach (e :: es) X.env)) (backToKw pos (keywordEach [] X.env))) := by rfl) :
    QE X g W (.Call (.Attribute (.Name x p) m apos) (e :: es) [] pos) (tMeth (He.ga X.K nm) m (spM X.K X.mg g nm sp) (dds.map sV) E0 (tVar i) tl) (qCallM i nm m ms dds sp ql) := by
  obtain ⟨f, fd, ps, ds, G, hm, hb, hv2, hf⟩ := mc.ex
  exact ⟨pe_methG (pe_var hN hv hd hcd) cl.cl hm G hgd (hr.mono hk) hb hv2 ha.pa hs hp ht, fun N => sm_callM hf (ha.sm N)⟩
theorem e_callM {i : Nat} {env : En} {k : Va → En → Prop} {x : XQ} : qCallM i nm m ms dds sp ql env k x = lk env i (sO (dObj nm fun _ fs0 => fs0.lookup m = none ∧ ql env (fun ys env1 => np i ys ∧ argsC ms ys env1 fun as env2 => apC as dds fun as' => lk env2 i (sO (dObj nm fun a fs =>
  sp a fs as' (hold (fun f2 r => st env2 i (.own (.obj nm a f2)) (k (.d r))) .mk) fun _ _ => False))) x)) := rfl
def qCallR (nm m : Str) (ms : List Md) (dds : List D) (sq : Spq) (qo : TEq) (ql : TAq) : TNq := fun env k x => qo env (fun y env1 => rd env1 y (dObj nm fun _ fs => fs.lookup m = none ∧ ql env1 (fun ys env2 => argsC (.bor :: ms) (y :: ys) env2 fun as env3 => apC as dds fun as' =>
  sq as' (hold (fun r => k r env3) .mk) fun _ _ => False) x)) x
theorem sm_callR (hd : flats dds = true) (ho : Sm c W to_ qo) (ha : SmA c W tl ql) : SmN c W (tMeth (He.ga c.K nm) m (spQ c.K c.mg c.g sq) (dds.map sV) E0 to_ tl) (qCallR nm m ms dds sq qo ql) := by
  intro F P S b σ H env k x Q R hq hx hk
  refine ho F P S b σ H env _ x _ R hq hx fun S0 H0 env0 v y R0 e0 r0 h0 => ?_
  obtain ⟨d, hd0, h0⟩ := h0
  have a0 := R0.read r0 hd0
  obtain ⟨a, fs, rfl, hm, h0⟩ := dObj_ex h0
  cases a0 with
  | @obj _ dx _ vs _ hH hn hr hx0 =>
  refine ⟨a, dx, vs, rfl, hH, fld_none hn hm, ?_⟩
  refine ha F P S0 b σ H0 env0 _ x _ R0 h0 (hx.mono e0) fun S1 H1 env1 us ys R1 e1 r1 h1 => ?_
  obtain ⟨as, env2, h2, h3⟩ := h1
  have h3 := apC_eq h3
  obtain ⟨S2, R2, e2, r2, bl⟩ := args_ok R1 (.cons (r0.mono e1.1) r1) h2
  have bg2 : Bg ⟨c.K, c.mg, c.g, c.N - bud env2⟩ (lend b H1) S2 H1 b (abud as) := fun q e => by
    obtain ⟨_, n2, _⟩ := R2.bg q e
    obtain ⟨_, _, xs, ds, g1, g2, g3, g4, g5⟩ := R1.bg q e
    refine ⟨lend_b e, n2, xs, ds, g1, g2.mono e2.1, g3, ?_, by show c.N - bud env2 ≤ _; omega⟩
    show c.g.cnt ds + abud as ≤ c.N - bud env2
    omega
  refine ⟨c.N - bud env2, lend b H1, S2, b, as ++ dds.map .bor, _, _, lend_same, R2.sh, by rw [abud_append, abud_bor]; exact bg2, r2.append (dds_ok hd), h3, fun v S' H' r s1 s2 s3 s4 s5 s6 => ?_, fun _ _ _ _ _ _ _ _ _ _ z => z.elim⟩
  obtain ⟨R3, e3⟩ := R2.after s1 s2 s3 s4
  obtain ⟨o1, o2⟩ := RvOk.back R2 s5
  exact hk S' H' env2 v r R3 (e0.trans (e1.trans (e2.trans e3))) o1 o2 s6
theorem qn_callR {pl : Sem Bool} (ms : List Md) (cl : ClT X.K nm) (mc : RCal X.prog X.w X.K X.mg X.base g k nm m dds sq) (hgd : X.A.guards = some []) (hr : Room j X.A) (hk : k ≤ j) (ho : QE X g W o to_ qo) (ha : QA X g W (e :: es) tl ql)
    (hs : starEach (e :: es) X.env = (false, eval e X.env) :: starEach es X.env := by rfl) (hp : (backTo pos (starEach es X.env)).any (·.1) = false := by rfl)
    (ht : eval (.Call (.Attribute o m apos) (e :: es) [] pos) X.env = (do let ov ← eval o X.env; standAt apos.atName; let (f, first) ← holding [ov] (getMethod ov m pl); callWith pos f first (backTo pos (starEach (e :: es) X.env)) (backToKw pos (keywordEach [] X.env))) := by rfl) :
    QN X g W (.Call (.Attribute o m apos) (e :: es) [] pos) (tMeth (He.ga X.K nm) m (spQ X.K X.mg g sq) (dds.map sV) E0 to_ tl) (qCallR nm m ms dds sq qo ql) := by
  obtain ⟨f, fd, ps, ds, G, hm, hb, hv2, hf⟩ := mc.ex
  exact ⟨pe_methG ho.pe cl.cl hm G hgd (hr.mono hk) hb hv2 ha.pa hs hp ht, fun N => sm_callR hf (ho.sm N) (ha.sm N)⟩
theorem qn_callR0 {pl : Sem Bool} (cl : ClT X.K nm) (mc : RCal X.prog X.w X.K X.mg X.base g k nm m dds sq) (hgd : X.A.guards = some []) (hr : Room j X.A) (hk : k ≤ j) (ho : QE X g W o to_ qo)
    (ht : eval (.Call (.Attribute o m apos) [] [] pos) X.env = (do let ov ← eval o X.env; standAt apos.atName; let (f, first) ← holding [ov] (getMethod ov m pl); callWith pos f first (backTo pos (starEach [] X.env)) (backToKw pos (keywordEach [] X.env))) := by rfl) :
    QN X g W (.Call (.Attribute o m apos) [] [] pos) (tMeth (He.ga X.K nm) m (spQ X.K X.mg g sq) (dds.map sV) E0 to_ tNil) (qCallR nm m [] dds sq qo qNil) := by
  obtain ⟨f, fd, ps, ds, G, hm, hb, hv2, hf⟩ := mc.ex
  exact ⟨pe_methG0 ho.pe cl.cl hm G hgd (hr.mono hk) hb hv2 ht, fun N => sm_callR (c := cg X g N) hf (ho.sm N) fun F P S b σ H env k x Q R hq _ hk => hk S H env [] [] R Ext.refl .nil hq⟩
theorem e_callR {env : En} {k : Rv → En → Prop} {x : XQ} : qCallR nm m ms dds sq qo ql env k x = qo env (fun y env1 => rd env1 y (dObj nm fun _ fs => fs.lookup m = none ∧ ql env1 (fun ys env2 => argsC (.bor :: ms) (y :: ys) env2 fun as env3 => apC as dds fun as' =>
  sq as' (hold (fun r => k r env3) .mk) fun _ _ => False) x)) x := rfl
theorem ArsOk.lent {K : Fg} {F F' S : Hp} {b : Option Addr} (e : Same F F') : ∀ {vs : List V} {as : List Ar}, ArsOk K F S b vs as → ArsOk K F' S b vs as
  | _, _, .nil => .nil
  | _, _, .cons (a := a) h r => .cons (by
      cases a with
      | bor d => exact At.mono (Same.refl _) e h
      | sh d => exact h
      | bag _ => exact h) (r.lent e)
def qMake (nm : Str) (ms : List Md) (dds : List D) (sp : SpqM) (ql : TAq) : TNq := fun env k x => ql env (fun ys env1 => argsC ms ys env1 fun as env2 => apC as dds fun as' => ∀ a, sp a [] as' (hold (fun f2 r => r = .non ∧ k (.own (.obj nm a f2)) env2) .mk) fun _ _ => False) x
theorem sm_make (hd : flats dds = true) (cl : ClT c.K nm) (ha : SmA c W tl ql) : SmN c W (tMake (He.ga c.K nm) (spM c.K c.mg c.g nm sp) (dds.map sV) E0 tl) (qMake nm ms dds sp ql) := by
  intro F P S b σ H env k x Q R hq hx hk
  refine ha F P S b σ H env _ x _ R hq hx fun S1 H1 env1 us ys R1 e1 r1 h1 => ?_
  obtain ⟨as, env2, h2, h3⟩ := h1
  have h3 := apC_eq h3
  obtain ⟨S2, R2, e2, r2, bl⟩ := args_ok R1 r1 h2
  intro y dx hy hdx hne
  have R3 := R2.alloc (o := .own y) hdx
  have hy3 : upd H1 dx (.own y) y = none := by rw [upd_ne (fun z => hne z.symm)]; exact hy
  have R4 := R3.alloc (o := .ins (He.ga c.K nm) dx []) hy3
  generalize hH4 : upd (upd H1 dx (.own y)) y (.ins (He.ga c.K nm) dx []) = H4 at R4
  have g4 : H4 y = some (.ins (He.ga c.K nm) dx []) := by rw [← hH4]; exact upd_same
  have s14 : Same H1 H4 := by rw [← hH4]; exact (same_upd hdx).trans (same_upd hy3)
  obtain ⟨n1, n2, n3⟩ := R2.new hy
  have sl : Same (lend b H1) (lendM b y H4) := by
    refine same_lendM (fun a o e => ?_) (by unfold lend; split; rfl; exact hy)
    unfold lend at e ⊢
    split at e
    · cases e
    · rw [if_neg (by assumption)]; exact s14 a o e
  have bg2 : Bg ⟨c.K, c.mg, c.g, c.N - bud env2⟩ (lendM b y H4) S2 H4 b (abud as) := fun q e => by
    obtain ⟨_, m2, _⟩ := R4.bg q e
    obtain ⟨_, _, xs, ds, g1, g2, g3, g4, g5⟩ := R1.bg q e
    refine ⟨by unfold lendM; split; rfl; exact lend_b e, m2, xs, ds, s14 _ _ g1, g2.mono e2.1, g3, ?_, by show c.N - bud env2 ≤ _; omega⟩
    show c.g.cnt ds + abud as ≤ c.N - bud env2
    omega
  refine ⟨c.N - bud env2, lendM b y H4, S2, b, y, _, [], as ++ dds.map .bor, _, _, rfl, lendM_same, R4.sh, by rw [abud_append, abud_bor]; exact bg2, ⟨lendM_p, n2, n3, .obj g4 rfl .nil cl⟩, (r2.lent sl).append (dds_ok hd), h3 y, fun v S' H' fs' r s1 s2 s3 s4 s5 s6 s7 s8 => ?_, fun _ _ _ _ _ _ _ _ _ _ _ _ z => False.elim z⟩
  obtain ⟨rfl, s8⟩ := s8
  have other : ∀ (i : Nat) (q : Addr) (d : D), σ[i]? = some (some (.ref q)) → env2[i]? = some (.own d) → q ≠ y := fun i q d g1 g2 z => R2.notOwn hy i d (z ▸ g1) g2
  have hext : Ext P S2 S' := ⟨s3.1, fun a e1 e2 => s3.2 a e1 (by
    cases e : P a with
    | none => exact absurd e e2
    | some o =>
      rw [lendM_ne (fun z => by subst z; rw [n1] at e; cases e), R4.pLend a o e]; simp)⟩
  have R5 : Rel c F P S' b σ H' env2 := by
    refine R4.to s3.1 ((same_lendM R4.pLend n1).trans s1) s2 (fun i q d g1 g2 => ?_) fun q e => ⟨(s4 q e).2.1, ?_⟩
    · obtain ⟨_, hs, hb, ho⟩ := R4.ownAt g1 g2
      obtain ⟨o, hp⟩ := ho.some
      have hl : lendM b y H4 q = some o := (lendM_ne (other i q d g1 g2)).trans ((lend_ne hb).trans hp)
      exact ⟨s3.2 q hs (by rw [hl]; simp), (s1 q o hl).trans hp.symm⟩
    · obtain ⟨_, _, xs, ds, g1, g2, g3, g4, g5⟩ := s4 q e
      obtain ⟨_, _, _, _, _, _, _, k4, k5⟩ := R4.bg q e
      exact ⟨xs, ds, g1, g2, g3, by have z : c.g.cnt ds + 0 ≤ c.N - bud env2 := g4; omega, k5⟩
  cases s7
  exact ⟨rfl, hk S' H' env2 (.ref y) (.own (.obj nm y fs')) R5 (e1.trans (e2.trans hext)) ⟨y, rfl, n1, s5, n3, s6⟩ (fun _ _ i d q hq g1 g2 => by cases hq; exact other i y d g1 g2 rfl) s8⟩
theorem qn_make (ms : List Md) (ic : ICal X.prog X.w X.K X.mg X.base g k nm dds sp) (hgd : X.A.guards = some []) (hr : Room j X.A) (hk : k + 1 ≤ j) (hg : Gl X nm) (ha : QA X g W (e :: es) tl ql) (hdb : (nm == ("__debug__" : Str)) = false := by decide)
    (he : starEach (e :: es) X.env = (false, eval e X.env) :: starEach es X.env := by rfl) (hpl : (backTo pos (starEach es X.env)).any (·.1) = false := by rfl) :
    QN X g W (.Call (.Name nm p) (e :: es) [] pos) (tMake (He.ga X.K nm) (spM X.K X.mg g nm sp) (dds.map sV) E0 tl) (qMake nm ms dds sp ql) := by
  obtain ⟨f, fd, ps, ds, G, mk, hm, hb, hv, hf, cl⟩ := ic.ex
  exact ⟨pe_makeG mk G hgd (hr.mono hk) hg hm hb hv ha.pa hdb he hpl, fun N => sm_make hf cl (ha.sm N)⟩
theorem e_make {env : En} {k : Rv → En → Prop} {x : XQ} : qMake nm ms dds sp ql env k x = ql env (fun ys env1 => argsC ms ys env1 fun as env2 => apC as dds fun as' => ∀ a, sp a [] as' (hold (fun f2 r => r = .non ∧ k (.own (.obj nm a f2)) env2) .mk) fun _ _ => False) x := rfl
end
end Q
set_option Elab.async false
set_option linter.all false
set_option maxRecDepth 100000
set_option maxHeartbeats 2000000
set_option autoImplicit false
namespace Q
open PySem PySem.Spec PyProof.Rows L2
def objB1 (K : Fg) (nm : Str) : Bool := He.Fa.ok K (.cls nm) && (He.eqO (PySem.W.findIn K (.ref (He.ga K nm)) "__class__") (some (some (.builtin "object.__class__"))) &&
  (He.eqO (PySem.W.specialIn K (.builtin "object.__class__") "__get__") (some (some (.builtin "getset_descriptor.__get__"))) && (decide (PySem.W.takesIn K (.builtin "object.__class__") = some true) &&
  (decide (PySem.W.mroIn K (He.ga K nm) (.type "object") = some true) && tyB K (He.ga K nm)))))
theorem objB1_ok {K : Fg} {nm : Str} (h : objB1 K nm = true) : ClT K nm := by
  unfold objB1 at h
  rw [Bool.and_eq_true, Bool.and_eq_true, Bool.and_eq_true, Bool.and_eq_true, Bool.and_eq_true] at h
  obtain ⟨h1, h2, h3, h4, h5, h6⟩ := h
  exact ⟨He.cls_ok h1, He.eqO_ok h2, He.eqO_ok h3, of_decide_eq_true h4, of_decide_eq_true h5, fun T hT => of_decide_eq_true (List.all_eq_true.mp h6 T hT)⟩
def objB (names : List Str) (K : Fg) : Bool := names.all (objB1 K)
theorem objB_ok {K : Fg} {names : List Str} (h : objB names K = true) : ∀ nm ∈ names, ClT K nm := fun nm hn => objB1_ok (List.all_eq_true.mp h nm hn)
end Q
set_option Elab.async false
set_option linter.all false
set_option maxRecDepth 100000
set_option maxHeartbeats 2000000
set_option autoImplicit false
namespace Q
inductive Fc where
  | same (i j : Nat) | diff (i j : Nat) | eqv (i j l : Nat) | win (i : Nat) (w : List Int)
def FcOk (n : Nat) : Fc → Prop
  | .same i j => i < n ∧ j < n ∧ i ≠ j
  | .diff i j => i < n ∧ j < n ∧ i ≠ j
  | .eqv i j l => i ≠ j ∧ 1 ≤ l ∧ i + l ≤ n ∧ j + l ≤ n
  | .win i w => 1 ≤ w.length ∧ i + w.length ≤ n
def Says (u : List Int) : Fc → Prop
  | .same i j => u[i]? = u[j]?
  | .diff i j => u[i]? ≠ u[j]?
  | .eqv i j l => ∀ a b, a < l → b < l → (u[i + a]? = u[i + b]? ↔ u[j + a]? = u[j + b]?)
  | .win i w => ∀ a b, a < w.length → b < w.length → (u[i + a]? = u[i + b]? ↔ w[a]? = w[b]?)
def Resp (L u : List Int) : Prop := ∀ i j, i < L.length → j < L.length → L[i]? = L[j]? → u[i]? = u[j]?
def mrg (L : List Int) (a b : Int) : List Int := L.map fun x => if x = max a b then min a b else x
theorem mrg_length (L : List Int) (a b : Int) : (mrg L a b).length = L.length := List.length_map ..
theorem mrg_same (L : List Int) (a : Int) : mrg L a a = L := by
  unfold mrg
  refine (List.map_congr_left fun x _ => ?_).trans (List.map_id L)
  show (if x = max a a then min a a else x) = x
  rw [Int.max_self, Int.min_self]
  split
  · rename_i h; exact h.symm
  · rfl
theorem mrg_keep {L : List Int} {a b : Int} {i j : Nat} (h : L[i]? = L[j]?) : (mrg L a b)[i]? = (mrg L a b)[j]? := by
  unfold mrg
  rw [List.getElem?_map, List.getElem?_map, h]
theorem mrg_join {L : List Int} {a b : Int} {i j : Nat} (h : L[i]? = some a) (h2 : L[j]? = some b) : (mrg L a b)[i]? = (mrg L a b)[j]? := by
  unfold mrg
  rw [List.getElem?_map, List.getElem?_map, h, h2]
  show some _ = some _
  congr 1
  by_cases e : a ≤ b
  · rw [Int.max_eq_right e, Int.min_eq_left e]
    show (if a = b then a else a) = (if b = b then a else b)
    rw [if_pos rfl]
    split <;> rfl
  · rw [Int.max_eq_left (by omega), Int.min_eq_right (by omega)]
    show (if a = a then b else a) = (if b = a then b else b)
    rw [if_pos rfl]
    split <;> rfl
theorem mrg_cases {L : List Int} {a b x y : Int} (h : (if x = max a b then min a b else x) = (if y = max a b then min a b else y)) : x = y ∨ (x = a ∧ y = b) ∨ (x = b ∧ y = a) := by
  by_cases e : a ≤ b
  · rw [Int.max_eq_right e, Int.min_eq_left e] at h
    split at h <;> split at h
    · exact .inl (by omega)
    · exact .inr (.inr ⟨by omega, by omega⟩)
    · exact .inr (.inl ⟨by omega, by omega⟩)
    · exact .inl h
  · rw [Int.max_eq_left (by omega), Int.min_eq_right (by omega)] at h
    split at h <;> split at h
    · exact .inl (by omega)
    · exact .inr (.inl ⟨by omega, by omega⟩)
    · exact .inr (.inr ⟨by omega, by omega⟩)
    · exact .inl h
theorem resp_mrg {L u : List Int} {a b : Int} {i j : Nat} (R : Resp L u) (hi : L[i]? = some a) (hj : L[j]? = some b) (hu : u[i]? = u[j]?) : Resp (mrg L a b) u := by
  intro p q hp hq e
  rw [mrg_length] at hp hq
  have il := (List.getElem?_eq_some_iff.mp hi).1
  have jl := (List.getElem?_eq_some_iff.mp hj).1
  unfold mrg at e
  rw [List.getElem?_map, List.getElem?_map, List.getElem?_eq_getElem hp, List.getElem?_eq_getElem hq] at e
  have e := Option.some.inj e
  rcases mrg_cases (L := L) e with h | ⟨h1, h2⟩ | ⟨h1, h2⟩
  · exact R p q hp hq (by rw [List.getElem?_eq_getElem hp, List.getElem?_eq_getElem hq, h])
  · rw [R p i hp il (by rw [List.getElem?_eq_getElem hp, hi, h1]), hu, R j q jl hq (by rw [List.getElem?_eq_getElem hq, hj, h2])]
  · rw [R p j hp jl (by rw [List.getElem?_eq_getElem hp, hj, h1]), ← hu, R i q il hq (by rw [List.getElem?_eq_getElem hq, hi, h2])]
def LinkOf (w : List Int) (p q : Nat) : Prop := p < q ∧ q < w.length ∧ w[p]? = w[q]? ∧ ∀ m, p < m → m < q → w[m]? ≠ w[q]?
theorem links_all {w : List Int} {E : Nat → Nat → Prop} (er : ∀ a, E a a) (es : ∀ a b, E a b → E b a) (et : ∀ a b c, E a b → E b c → E a c) (h : ∀ p q, LinkOf w p q → E p q) : ∀ a b, a < w.length → b < w.length → w[a]? = w[b]? → E a b := by
  have key : ∀ (n a b : Nat), b - a ≤ n → a ≤ b → b < w.length → w[a]? = w[b]? → E a b := by
    intro n
    induction n with
    | zero =>
      intro a b h1 h2 _ _
      have : a = b := by omega
      subst this
      exact er a
    | succ n ih =>
      intro a b h1 h2 hb he
      by_cases hab : a = b
      · subst hab; exact er a
      by_cases hm : ∃ m, a < m ∧ m < b ∧ w[m]? = w[b]?
      · obtain ⟨m, m1, m2, m3⟩ := hm
        exact et a m b (ih a m (by omega) (by omega) (by omega) (he.trans m3.symm)) (ih m b (by omega) (by omega) hb m3)
      · exact h a b ⟨by omega, hb, he, fun m m1 m2 m3 => hm ⟨m, m1, m2, m3⟩⟩
  intro a b ha hb he
  rcases Nat.le_total a b with h1 | h1
  · exact key (b - a) a b (Nat.le_refl _) h1 hb he
  · exact es b a (key (a - b) b a (Nat.le_refl _) h1 ha he.symm)
def Copied (L : List Int) (s t l : Nat) : Prop := ∀ a b, a < l → b < l → L[s + a]? = L[s + b]? → L[t + a]? = L[t + b]?
theorem says_eqv {L : List Int} {i j l : Nat} (h1 : Copied L i j l) (h2 : Copied L j i l) : Says L (.eqv i j l) := fun a b ha hb => ⟨h1 a b ha hb, h2 a b ha hb⟩
def Viol (L : List Int) : Fc → Prop
  | .diff i j => L[i]? = L[j]?
  | .win i w => ∃ a b, a < b ∧ b < w.length ∧ L[i + a]? = L[i + b]? ∧ w[a]? ≠ w[b]?
  | _ => False
def Made (L : List Int) : Fc → Prop
  | .same i j => L[i]? = L[j]?
  | .win i w => ∀ a b, a < w.length → b < w.length → w[a]? = w[b]? → L[i + a]? = L[i + b]?
  | .eqv i j l => Copied L i j l ∧ Copied L j i l
  | .diff _ _ => True
theorem says_iff {L : List Int} {f : Fc} (m : Made L f) : Says L f ↔ ¬ Viol L f := by
  cases f with
  | same i j => exact ⟨fun _ h => h, fun _ => m⟩
  | diff i j => exact ⟨fun h v => h v, fun h v => h v⟩
  | eqv i j l => exact ⟨fun _ h => h, fun _ => says_eqv m.1 m.2⟩
  | win i w =>
    constructor
    · rintro h ⟨a, b, h1, h2, h3, h4⟩
      exact h4 ((h a b (by omega) h2).mp h3)
    · intro h a b ha hb
      refine ⟨fun e => ?_, m a b ha hb⟩
      by_cases e2 : w[a]? = w[b]?
      · exact e2
      · exfalso
        rcases Nat.lt_trichotomy a b with h1 | h1 | h1
        · exact h ⟨a, b, h1, hb, e, e2⟩
        · subst h1; exact e2 rfl
        · exact h ⟨b, a, h1, ha, e.symm, fun z => e2 z.symm⟩
theorem no_viol {L u : List Int} {n : Nat} (hl : L.length = n) (R : Resp L u) {f : Fc} (hf : FcOk n f) (h : Says u f) : ¬ Viol L f := by
  cases f with
  | same i j => exact fun z => z
  | eqv i j l => exact fun z => z
  | diff i j =>
    obtain ⟨h1, h2, _⟩ := hf
    exact fun z => h (R i j (by omega) (by omega) z)
  | win i w =>
    obtain ⟨h1, h2⟩ := hf
    rintro ⟨a, b, k1, k2, k3, k4⟩
    exact k4 ((h a b (by omega) k2).mp (R (i + a) (i + b) (by omega) (by omega) k3))
end Q
set_option Elab.async false
set_option linter.all false
set_option maxRecDepth 100000
set_option maxHeartbeats 2000000
set_option autoImplicit false
namespace Q
open PySem PySem.Spec PyProof.Rows L2
theorem e_ty_int_T {kvs : List (List Key × D)} : isTy "int" (.dcT kvs) = false := by simp [isTy, tyN]
theorem e_ty_int_O {nm : Str} {a : Addr} {fs : List (Str × D)} : isTy "int" (.obj nm a fs) = false := by simp [isTy, tyN]
theorem e_ty_bool_T {kvs : List (List Key × D)} : isTy "bool" (.dcT kvs) = false := by simp [isTy, tyN]
theorem e_ty_bool_O {nm : Str} {a : Addr} {fs : List (Str × D)} : isTy "bool" (.obj nm a fs) = false := by simp [isTy, tyN]
theorem e_ty_str_T {kvs : List (List Key × D)} : isTy "str" (.dcT kvs) = false := by simp [isTy, tyN]
theorem e_ty_str_O {nm : Str} {a : Addr} {fs : List (Str × D)} : isTy "str" (.obj nm a fs) = false := by simp [isTy, tyN]
theorem e_ty_list_T {kvs : List (List Key × D)} : isTy "list" (.dcT kvs) = false := by simp [isTy, tyN]
theorem e_ty_list_O {nm : Str} {a : Addr} {fs : List (Str × D)} : isTy "list" (.obj nm a fs) = false := by simp [isTy, tyN]
theorem e_ty_tuple_T {kvs : List (List Key × D)} : isTy "tuple" (.dcT kvs) = false := by simp [isTy, tyN]
theorem e_ty_tuple_O {nm : Str} {a : Addr} {fs : List (Str × D)} : isTy "tuple" (.obj nm a fs) = false := by simp [isTy, tyN]
theorem e_ty_dict_T {kvs : List (List Key × D)} : isTy "dict" (.dcT kvs) = true := by simp [isTy, tyN]
theorem e_ty_dict_O {nm : Str} {a : Addr} {fs : List (Str × D)} : isTy "dict" (.obj nm a fs) = false := by simp [isTy, tyN]
inductive FcP : Fc → List D → Prop
  | same {i j : Nat} : FcP (.same i j) [.str (Str.ofString "same"), .int i, .int j]
  | diff {i j : Nat} : FcP (.diff i j) [.str (Str.ofString "different"), .int i, .int j]
  | eqv {i j l : Nat} : FcP (.eqv i j l) [.str (Str.ofString "equivalent"), .int i, .int j, .int l]
  | winL {i : Nat} {w : List Int} : FcP (.win i w) [.str (Str.ofString "window"), .int i, .lst ((dist w).map .int)]
  | winT {i : Nat} {w : List Int} : FcP (.win i w) [.str (Str.ofString "window"), .int i, .tup ((dist w).map .int)]
inductive FcAt (f : Fc) : D → Prop
  | lst {ps : List D} : FcP f ps → FcAt f (.lst ps)
  | tup {ps : List D} : FcP f ps → FcAt f (.tup ps)
inductive FcsAt : List Fc → List D → Prop
  | nil : FcsAt [] []
  | cons {f : Fc} {fs : List Fc} {d : D} {ds : List D} : FcAt f d → FcsAt fs ds → FcsAt (f :: fs) (d :: ds)
theorem FcsAt.length : ∀ {fs : List Fc} {ds : List D}, FcsAt fs ds → fs.length = ds.length
  | _, _, .nil => rfl
  | _, _, .cons _ r => congrArg (· + 1) r.length
theorem FcsAt.at : ∀ {fs : List Fc} {ds : List D} {n : Nat} {d : D}, FcsAt fs ds → ds[n]? = some d → ∃ f, fs[n]? = some f ∧ FcAt f d
  | _, _, _, _, .nil, h => by simp at h
  | _, _, 0, _, .cons a _, h => by simp at h; subst h; exact ⟨_, rfl, a⟩
  | _, _, n + 1, _, .cons _ r, h => by
    obtain ⟨f, h1, h2⟩ := FcsAt.at (n := n) r (by simpa using h)
    exact ⟨f, by simpa using h1, h2⟩
theorem FcsAt.append : ∀ {fs gs : List Fc} {ds es : List D}, FcsAt fs ds → FcsAt gs es → FcsAt (fs ++ gs) (ds ++ es)
  | _, _, _, _, .nil, r => r
  | _, _, _, _, .cons a t, r => .cons a (t.append r)
section
variable {X : Cx} {g : Gd} {ix : List Nat} {es : List Expr} {pos : Pos}
def qgUnl (n : Nat) (t : TGsq) : TGq := fun d env k => ∃ ds, d = .lst ds ∧ ds.length = n ∧ t ds env k
theorem qg_unl {k : Nat} {t : TGs} {q : TGsq} {n : Nat} (hc : X.calm = true) (h : QGs X g ix es t q) (hn : (assignEach es X.env).length = n := by rfl) (hst : (assignEach es X.env).findIdx? (·.1) = none := by rfl) : QG X g ix (.Tuple es k pos) (L2.gUnl X.K n t) (qgUnl n q) :=
  ⟨L2.pg_unl hc h.pgs hn hst, fun N F P S b σ H env v d k Q R r hq hk => by
    obtain ⟨ds, rfl, hl, hq⟩ := hq
    cases r with
    | lst h1 r1 => exact ⟨_, _, rfl, SqL.of (R.sh _ _ h1), by rw [r1.length]; exact hl, h.sm N F P S b σ H env _ ds k Q R r1 hq hk⟩⟩
theorem e_gunl {n : Nat} {t : TGsq} {ds : List D} {env : En} {f : En → Prop} : qgUnl n t (.lst ds) env f = (ds.length = n ∧ t ds env f) := propext ⟨fun ⟨_, h, q⟩ => by cases h; exact q, fun q => ⟨_, rfl, q⟩⟩
end
def lnks (w : List Int) : List (Nat × Nat) := ((List.range w.length).filter fun o => decide (0 < dAt w o)).map fun o => (o - (dAt w o).toNat, o)
def prD (p : Nat × Nat) : D := .tup [.int p.1, .int p.2]
def lnkD (w : List Int) : List D := (lnks w).map prD
theorem lnks_mem {w : List Int} {p q : Nat} : (p, q) ∈ lnks w ↔ LinkOf w p q := by
  unfold lnks
  rw [List.mem_map]
  constructor
  · rintro ⟨o, ho, e⟩
    rw [List.mem_filter, List.mem_range, decide_eq_true_eq] at ho
    obtain ⟨h1, h2⟩ := ho
    obtain ⟨j, hj, hd⟩ := dAt_pos h2
    obtain ⟨j1, j2, j3⟩ := lastIn_some.mp hj
    have e1 : o - (dAt w o).toNat = p := congrArg Prod.fst e
    have e2 : o = q := congrArg Prod.snd e
    subst e2
    have : p = j := by omega
    subst this
    exact ⟨j1, h1, of_decide_eq_true j2, fun m m1 m2 => of_decide_eq_false (j3 m m1 m2)⟩
  · rintro ⟨h1, h2, h3, h4⟩
    have hl : lastIn (fun j => decide (w[j]? = w[q]?)) q = some p := lastIn_some.mpr ⟨h1, decide_eq_true h3, fun m m1 m2 => decide_eq_false (h4 m m1 m2)⟩
    have hd : dAt w q = (q : Int) - (p : Nat) := by unfold dAt; rw [hl]
    refine ⟨q, ?_, ?_⟩
    · rw [List.mem_filter, List.mem_range, decide_eq_true_eq]
      exact ⟨h2, by omega⟩
    · rw [hd]
      congr 1
      omega
theorem lnks_len (w : List Int) : (lnks w).length ≤ w.length := by
  unfold lnks
  rw [List.length_map]
  refine Nat.le_trans (List.length_filter_le ..) ?_
  rw [List.length_range]; exact Nat.le_refl _
theorem num_dist (w : List Int) : numbered 0 ((dist w).map .int) = (List.range w.length).map fun o => .tup [.int (o : Nat), .int (dAt w o)] := by
  apply List.ext_getElem?
  intro i
  rw [List.getElem?_map]
  by_cases h : i < w.length
  · rw [List.getElem?_range h, num_at (e := .int (dAt w i)) (by rw [List.getElem?_map, dist_get w h]; rfl)]
    rfl
  · rw [num_none (by rw [List.getElem?_map, List.getElem?_eq_none (by rw [dist_length]; omega)]; rfl), List.getElem?_eq_none (by rw [List.length_range]; omega)]
    rfl
theorem lnkD_eq (w : List Int) : ((List.range w.length).filter fun o => decide (0 < dAt w o)).map (fun o : Nat => D.tup [.int ((o : Int) - dAt w o), .int (o : Nat)]) = lnkD w := by
  unfold lnkD lnks
  rw [List.map_map]
  refine List.map_congr_left fun o ho => ?_
  rw [List.mem_filter, decide_eq_true_eq] at ho
  have h1 := dAt_bounds w o
  show _ = D.tup [.int ((o - (dAt w o).toNat : Nat) : Int), .int (o : Nat)]
  congr 3
  omega
end Q
set_option Elab.async false
set_option linter.all false
set_option maxRecDepth 100000
set_option maxHeartbeats 2000000
set_option autoImplicit false
namespace Q
open PySem PySem.Spec PyProof.Rows L2
theorem sort2 {zs : List Int} {a b : Int} (hp : zs.Perm [a, b]) (hs : zs.Pairwise (· ≤ ·)) : zs = [min a b, max a b] := by
  have hl := hp.length_eq
  match zs, hl, hp, hs with
  | [x, y], _, hp, hs =>
    have hxy : x ≤ y := by simpa using hs
    have h1 : x ∈ [a, b] := hp.mem_iff.mp (by simp)
    have h2 : y ∈ [a, b] := hp.mem_iff.mp (by simp)
    have h3 : a ∈ [x, y] := hp.mem_iff.mpr (by simp)
    have h4 : b ∈ [x, y] := hp.mem_iff.mpr (by simp)
    simp only [List.mem_cons, List.not_mem_nil, or_false] at h1 h2 h3 h4
    have e1 : x = min a b := by omega
    have e2 : y = max a b := by omega
    rw [e1, e2]
theorem mrg_less {L : List Int} {a b : Int} (ha : a ∈ L) (hb : b ∈ L) (h : a ≠ b) : (dd (mrg L a b)).length < (dd L).length := by
  have hm : max a b ∈ dd L := (dd_mem L _).mpr (by
    by_cases e : a ≤ b
    · rw [Int.max_eq_right e]; exact hb
    · rw [Int.max_eq_left (by omega)]; exact ha)
  have hmin : min a b ∈ L := by
    by_cases e : a ≤ b
    · rw [Int.min_eq_left e]; exact ha
    · rw [Int.min_eq_right (by omega)]; exact hb
  have hle := nodup_len (l := dd (mrg L a b)) (m := (dd L).erase (max a b)) (dd_nodup' _) fun x hx => by
    have hx := (dd_mem _ _).mp hx
    unfold mrg at hx
    obtain ⟨y, hy, rfl⟩ := List.mem_map.mp hx
    have ne : (if y = max a b then min a b else y) ≠ max a b := by
      split
      · omega
      · assumption
    refine (List.mem_erase_of_ne ne).mpr ((dd_mem _ _).mpr ?_)
    split
    · exact hmin
    · exact hy
  rw [List.length_erase_of_mem hm] at hle
  have := List.length_pos_of_mem hm
  omega
structure Grew (L L2 : List Int) (c : Bool) (P : List Int → Prop) : Prop where
  len : L2.length = L.length
  keep : ∀ i j : Nat, L[i]? = L[j]? → L2[i]? = L2[j]?
  resp : ∀ u : List Int, Resp L u → P u → Resp L2 u
  less : c = true → (dd L2).length < (dd L).length
  same : c = false → L2 = L
theorem Grew.refl (L : List Int) (P : List Int → Prop) : Grew L L false P := ⟨rfl, fun _ _ h => h, fun _ h _ => h, (fun h => nomatch h), fun _ => rfl⟩
theorem Grew.le {L L2 : List Int} {c : Bool} {P : List Int → Prop} (h : Grew L L2 c P) : (dd L2).length ≤ (dd L).length := by
  cases c with
  | true => exact Nat.le_of_lt (h.less rfl)
  | false => rw [h.same rfl]; exact Nat.le_refl _
theorem Grew.trans {L L2 L3 : List Int} {c d : Bool} {P : List Int → Prop} (h : Grew L L2 c P) (h2 : Grew L2 L3 d P) : Grew L L3 (d || c) P where
  len := h2.len.trans h.len
  keep := fun i j e => h2.keep i j (h.keep i j e)
  resp := fun u r p => h2.resp u (h.resp u r p) p
  less := fun e => by
    have a1 := h.le
    have a2 := h2.le
    cases d with
    | true => exact Nat.lt_of_lt_of_le (h2.less rfl) a1
    | false => exact Nat.lt_of_le_of_lt a2 (h.less (by simpa using e))
  same := fun e => by
    have e : d = false ∧ c = false := by cases d <;> cases c <;> first | exact ⟨rfl, rfl⟩ | cases e
    rw [h2.same e.1, h.same e.2]
theorem Grew.imp {L L2 : List Int} {c : Bool} {P P' : List Int → Prop} (h : Grew L L2 c P) (hp : ∀ u, P' u → P u) : Grew L L2 c P' := ⟨h.len, h.keep, fun u r p => h.resp u r (hp u p), h.less, h.same⟩
theorem grew_mrg {L : List Int} {i j : Nat} {a b : Int} {P : List Int → Prop} (hi : L[i]? = some a) (hj : L[j]? = some b) (hp : ∀ u, Resp L u → P u → u[i]? = u[j]?) : Grew L (mrg L a b) (decide (a ≠ b)) P :=
  ⟨mrg_length .., fun _ _ h => mrg_keep h, fun u r p => resp_mrg r hi hj (hp u r p), fun h => mrg_less (List.mem_of_getElem? hi) (List.mem_of_getElem? hj) (of_decide_eq_true h), fun h => by
    have : a = b := by
      have := of_decide_eq_false h
      exact Classical.byContradiction fun z => this z
    rw [this, mrg_same]⟩
def Cps (s t l : Nat) (u : List Int) : Prop := Copied u s t l
def segN (L : List Int) (s l : Nat) : List Int := (L.drop s).take l
theorem segN_get {L : List Int} {s l a : Nat} (h : a < l) : (segN L s l)[a]? = L[s + a]? := by
  unfold segN
  rw [List.getElem?_take_of_lt h, List.getElem?_drop]
theorem segN_len {L : List Int} {s l : Nat} (h : s + l ≤ L.length) : (segN L s l).length = l := by
  unfold segN
  rw [List.length_take, List.length_drop]; omega
structure Linked (L : List Int) (s t l : Nat) (L2 : List Int) (c : Bool) : Prop extends Grew L L2 c (Cps s t l) where
  done : ∀ a b, a < l → b < l → L[s + a]? = L[s + b]? → L2[t + a]? = L2[t + b]?
theorem linked_of {L L2 : List Int} {s t l : Nat} {c : Bool} (hs : s + l ≤ L.length) (g : Grew L L2 c (Cps s t l)) (h : ∀ pq ∈ lnks (segN L s l), L2[t + pq.1]? = L2[t + pq.2]?) : Linked L s t l L2 c :=
  ⟨g, fun a b ha hb e => by
    have hl := segN_len hs
    exact links_all (w := segN L s l) (E := fun a b => L2[t + a]? = L2[t + b]?) (fun _ => rfl) (fun _ _ e => e.symm) (fun _ _ _ e1 e2 => e1.trans e2) (fun p q hpq => h (p, q) (lnks_mem.mpr hpq)) a b (by omega) (by omega) (by rw [segN_get ha, segN_get hb]; exact e)⟩
theorem link_step {L0 L : List Int} {s t l : Nat} {c : Bool} {p q : Nat} {a b : Int} (hs : s + l ≤ L0.length) (ht : t + l ≤ L0.length) (g : Grew L0 L c (Cps s t l)) (hm : (p, q) ∈ lnks (segN L0 s l)) (ha : L[t + p]? = some a) (hb : L[t + q]? = some b) : Grew L0 (mrg L a b) (decide (a ≠ b) || c) (Cps s t l) := by
  obtain ⟨h1, h2, h3, h4⟩ := lnks_mem.mp hm
  rw [segN_len hs] at h2
  have g2 : Grew L0 (mrg L a b) (decide (a ≠ b) || c) (fun u => Cps s t l u ∧ Resp L0 u) :=
    (g.imp fun u h => h.1).trans (grew_mrg ha hb fun u _ hu => hu.1 p q (by omega) h2 (hu.2 (s + p) (s + q) (by omega) (by omega) (by rw [segN_get (by omega), segN_get h2] at h3; exact h3)))
  exact ⟨g2.len, g2.keep, fun u r h => g2.resp u r ⟨h, r⟩, g2.less, g2.same⟩
def ldF (L : List Int) : List (Str × D) := [("leaders", .lst (L.map .int))]
theorem ldF_no {L : List Int} {m : Str} (h : (m == ("leaders" : Str)) = false) : (ldF L).lookup m = none := by
  unfold ldF
  rw [List.lookup_cons, h]; rfl
end Q
set_option Elab.async false
set_option linter.all false
set_option maxRecDepth 100000
set_option maxHeartbeats 2000000
set_option autoImplicit false
namespace Q
open PySem PySem.Spec PyProof.Rows L2
structure Both (L : List Int) (i j l : Nat) (L2 : List Int) (c : Bool) : Prop extends Grew L L2 c (fun u => Says u (.eqv i j l)) where
  made : c = false → Made L2 (.eqv i j l)
theorem both_of {L M L2 : List Int} {i j l : Nat} {c d : Bool} (h1 : Linked L i j l M c) (h2 : Linked M j i l L2 d) : Both L i j l L2 (d || c) := by
  refine ⟨(h1.toGrew.imp fun u h a b ha hb => (h a b ha hb).mp).trans (h2.toGrew.imp fun u h a b ha hb => (h a b ha hb).mpr), fun e => ?_⟩
  have e : d = false ∧ c = false := by cases d <;> cases c <;> first | exact ⟨rfl, rfl⟩ | cases e
  have e1 := h1.same e.2
  have e2 := h2.same e.1
  subst e2
  have d1 := h1.done
  have d2 := h2.done
  subst e1
  exact ⟨d1, d2⟩
def PM (L : List Int) : Fc → Prop
  | .eqv _ _ _ => True
  | f => Made L f
theorem PM.keep {L L2 : List Int} {f : Fc} (h : PM L f) (k : ∀ i j : Nat, L[i]? = L[j]? → L2[i]? = L2[j]?) : PM L2 f := by
  cases f with
  | same i j => exact k i j h
  | diff i j => trivial
  | eqv i j l => trivial
  | win i w => exact fun a b ha hb e => k _ _ (h a b ha hb e)
structure Closed (n : Nat) (fc : List Fc) (L : List Int) : Prop where
  len : L.length = n
  made : ∀ f ∈ fc, Made L f
  resp : ∀ u : List Int, u.length = n → (∀ f ∈ fc, Says u f) → Resp L u
structure Half (n : Nat) (fc : List Fc) (m : Nat) (L : List Int) : Prop where
  len : L.length = n
  made : ∀ f ∈ fc.take m, PM L f
  resp : ∀ u : List Int, u.length = n → (∀ f ∈ fc, Says u f) → Resp L u
theorem upto_get2 {n i : Nat} (h : i < n) : (upto n)[i]? = some (i : Int) := by
  have hl : i < (upto n).length := by rw [upto_length]; exact h
  obtain ⟨q, hq⟩ : ∃ q, (upto n)[i]? = some q := ⟨_, List.getElem?_eq_getElem hl⟩
  rw [hq, (upto_get hq).1]
theorem half_start (n : Nat) (fc : List Fc) : Half n fc 0 (upto n) :=
  ⟨upto_length n, by simp, fun u _ _ i j hi hj e => by
    rw [upto_length] at hi hj
    rw [upto_get2 hi, upto_get2 hj] at e
    have : i = j := by have := Option.some.inj e; omega
    rw [this]⟩
theorem Half.grew {n m : Nat} {fc : List Fc} {L L2 : List Int} {c : Bool} {P : List Int → Prop} (h : Half n fc m L) (g : Grew L L2 c P) (hp : ∀ u : List Int, u.length = n → (∀ f ∈ fc, Says u f) → P u) : Half n fc m L2 :=
  ⟨g.len.trans h.len, fun f hf => (h.made f hf).keep g.keep, fun u hu hs => g.resp u (h.resp u hu hs) (hp u hu hs)⟩
theorem Half.next {n m : Nat} {fc : List Fc} {L : List Int} {f : Fc} (h : Half n fc m L) (hf : fc[m]? = some f) (p : PM L f) : Half n fc (m + 1) L :=
  ⟨h.len, fun g hg => by
    rw [List.take_add_one, hf] at hg
    rcases List.mem_append.mp hg with hg | hg
    · exact h.made g hg
    · rw [List.mem_singleton.mp (show g ∈ [f] from hg)]; exact p, h.resp⟩
theorem Half.closed {n : Nat} {fc : List Fc} {L : List Int} (h : Half n fc fc.length L) (he : ∀ i j l, Fc.eqv i j l ∈ fc → Made L (.eqv i j l)) : Closed n fc L :=
  ⟨h.len, fun f hf => by
    have z := h.made f (by rw [List.take_length]; exact hf)
    cases f with
    | eqv i j l => exact he i j l hf
    | _ => exact z, h.resp⟩
def isEqv : Fc → Bool
  | .eqv _ _ _ => true
  | _ => false
end Q
set_option Elab.async false
set_option linter.all false
set_option maxRecDepth 100000
set_option maxHeartbeats 2000000
set_option autoImplicit false
namespace Q
open PySem PySem.W PySem.Calls PyProof.Rows L2 PySem.Spec
section
variable {P : Program} {w : World} {A : Around} {E : Value → Shared → Prop} {s : Shared}
theorem collect_tup {l : Addr} {o : Obj} {vs : List Value} {n : Nat} {Q : List Value → Shared → Prop} (ho : s.heap.get? l = some o) (hc : o.cls = .type "tuple") (hd : o.data = .seq vs.toArray n) (hz : vs.length ≤ sizeLine)
    (h : Q vs { s with heap := (s.heap.push (seqObj "list" #[] 0)).update s.heap.objs.size (Obj.mapSeq (· ++ vs.toArray)) }) : wpAny (model P w) A (collect (.ref l)) Q E s := by
  have e1 : (s.heap.push (seqObj "list" #[] 0)).get? s.heap.objs.size = some (seqObj "list" #[] 0) := Heap.get?_push_size _ rfl
  have e2 : (#[] ++ vs.toArray : Array Value).toList = vs := by simp
  have e3 : (s.heap.push (seqObj "list" #[] 0)).get? l = some o := Heap.get?_push_of_some _ ho
  unfold collect
  refine wpAny_bind (wpAny_runValue (codeAny_builtin entry_proto_collect' (wpAny_bind (wpAny_newList (wpAny_pure ⟨Code.quiet_builtin _ (by decide +kernel), codeAny_builtin entry_list_iadd' ?_⟩)))))
  change wpAny _ _ (Builtin.List.listExtendWith (Value.ref s.heap.objs.size) (Value.ref l) (Value.ref s.heap.objs.size)) _ _ _
  unfold Builtin.List.listExtendWith
  have hT : (Value.type "tuple" == Value.type "tuple") = true := by rfl
  refine wpAny_bind (wpAny_typeOf (T := "tuple") ⟨o, e3, hc⟩ ?_)
  rw [if_pos (by rw [hT, Bool.or_true])]
  refine wpAny_bind (listItems_at e3 hd (wpAny_bind (listItems_at (xs := #[]) (n := 0) e1 rfl ?_)))
  rw [if_neg (by simp)]
  refine wpAny_bind (listUpdate_at (xs := #[]) (n := 0) e1 rfl (wpAny_pure ?_) (Nat.zero_le _) (by simp only [Array.size_append, List.size_toArray, List.length_nil]; omega))
  exact wpAny_bind (wpAny_load (get?_update_seq e1 _) (wpAny_pure (by rw [e2]; exact h)))
theorem sorted_tup {l : Addr} {o : Obj} {vs : List Value} {ns : List Int} {n : Nat} {Q : Value → Shared → Prop} (ho : s.heap.get? l = some o) (hc : o.cls = .type "tuple") (hd : o.data = .seq vs.toArray n) (hz : vs.length ≤ sizeLine) (hI : IntsAre vs ns)
    (hQ : ∀ (h' : Heap) (p : Addr) (out : Array Value) (c : Nat) (ns' : List Int), (∀ b u, s.heap.get? b = some u → h'.get? b = some u) → s.heap.objs.size ≤ p → h'.get? p = some (seqObj "list" out c) → IntsAre out.toList ns' → ns'.Perm ns → ns'.Pairwise (· ≤ ·) →
      Q (.ref p) { s with heap := h' }) : wpAny (model P w) A (call (.builtin "sorted") [.ref l]) Q E s := by
  refine Calls.call_function_entry kind_sorted plain_sorted entry_sorted (args_sorted1 _) ?_
  unfold Builtin.«sorted»
  refine wpAny_bind (m := checkCount "sorted" 1 1 _) (wpAny_pure (wpAny_bind (collect_tup ho hc hd hz (wpAny_bind (wpAny_newList ?_ hz)))))
  generalize hh1 : (s.heap.push (seqObj "list" #[] 0)).update s.heap.objs.size (Obj.mapSeq (· ++ vs.toArray)) = h1
  have hs1 : h1.objs.size = s.heap.objs.size + 1 := by rw [← hh1, Heap.size_update, size_push']
  have k1 : ∀ b u, s.heap.get? b = some u → h1.get? b = some u := fun b u e => by
    rw [← hh1]
    exact (Heap.get?_update_ne _ _ _ _ (Nat.ne_of_lt (Heap.lt_size e))).trans (Heap.get?_push_of_some _ e)
  have hoL : (h1.push (seqObj "list" vs.toArray 0)).get? h1.objs.size = some (seqObj "list" vs.toArray 0) := Heap.get?_push_size _ rfl
  refine wpAny_bind (wpAny_holding (wpAny_call_entry slot_list_sort ⟨_, hoL, rfl⟩ entry_list_sort (SrtO.list_sort_ord SrtO.swo_int hoL hz (fun h2 => SrtO.ints_sortable hI h2) fun outL g1 g2 => ⟨_, rfl, ?_⟩) (args_list_sort _)))
  obtain ⟨a1, a2, a3⟩ := SrtO.ints_out hI g1 g2
  obtain ⟨c, hcc⟩ := sortedHeap_at (vs := vs) (out := outL.toArray) hoL
  refine wpAny_pure ⟨_, rfl, hQ _ h1.objs.size outL.toArray c (outL.map SrtO.iv) (fun b u e => ?_) (by omega) hcc (by simpa using a1) a2 a3⟩
  have q := k1 b u e
  have hlt := Heap.lt_size q
  rw [sortedHeap_old (Nat.ne_of_lt hlt) (by rw [size_push']; exact Nat.lt_succ_of_lt hlt)]
  exact Heap.get?_push_of_some _ q
end
section
variable {X : Cx} {K : Fg}
def rSortIT (K : Fg) : List V → Hp → VK → Prop := fun vs H Q => ∃ (a : Addr) (ns : List Int), vs = [V.ref a] ∧ SqT K H a (ns.map V.int) ∧ ∀ (zs : List Int) (p : Addr), zs.Perm ns → zs.Pairwise (· ≤ ·) → H p = none → Q (.ref p) (upd H p (.lst (zs.map V.int)))
theorem cr_sortIT : CallR X (.builtin "sorted") (rSortIT X.K) := by
  intro pins s σ H vs us Q I r h
  obtain ⟨a, ns, rfl, hs, q⟩ := h
  obtain ⟨its, rv, ⟨o, ho, hc, n, hd⟩, hz⟩ := I.tuple hs
  rw [Vals.ref1 r]
  refine sorted_tup ho hc hd (by rw [← rv.length]; exact hz) rv.ints fun h' p out c zs k1 hp hg hi h1 h2 => ?_
  have hl : (zs.map V.int).length ≤ sizeLine := by
    rw [List.length_map, h1.length_eq]
    rw [List.length_map] at hz
    exact hz
  exact ⟨.ref p, upd H p (.lst (zs.map V.int)), I.laid (t' := s.toks) k1 hp ⟨hl, out.toList, c, vals_of_ints hi, hg⟩, rfl, q zs p h1 h2 (I.hok.fresh hp)⟩
def fSortIT : List D → (Rv → Prop) → Prop
  | [.lst ds], k => fSortI [.lst ds] k
  | [.tup ds], k => ∃ ns : List Int, ds = ns.map .int ∧ ∀ zs : List Int, zs.Perm ns → zs.Pairwise (· ≤ ·) → k (.own (.lst (zs.map .int)))
  | _, _ => False
theorem f_sortITl {ds : List D} {k : Rv → Prop} : fSortIT [.lst ds] k = fSortI [.lst ds] k := rfl
theorem f_sortITt {ns : List Int} {k : Rv → Prop} : fSortIT [.tup (ns.map .int)] k = ∀ zs : List Int, zs.Perm ns → zs.Pairwise (· ≤ ·) → k (.own (.lst (zs.map .int))) := propext ⟨fun ⟨ms, e, h⟩ => by
  rw [ints_inj] at e
  subst e; exact h, fun h => ⟨ns, rfl, h⟩⟩
theorem call_sortIT : CallR X (.builtin "sorted") (fun xs H Q => rSortedI X.K xs H Q ∨ rSortIT X.K xs H Q) := CallR.or cr_sortedI cr_sortIT
theorem c_sortIT : CbR K (fun xs H Q => rSortedI K xs H Q ∨ rSortIT K xs H Q) fSortIT := by
  intro S H vs ds k Q s a hf o
  unfold fSortIT at hf
  split at hf
  · exact .inl (c_sortI S H vs _ k Q s a hf o)
  · obtain ⟨ns, rfl, q⟩ := hf
    obtain ⟨v, rfl, a1⟩ := ats1 a
    cases a1 with
    | tup h r =>
      have := r.ints
      subst this
      exact .inr ⟨_, ns, rfl, SqT.of h, fun zs p h1 h2 hp => o.new p _ _ hp (.lst upd_same (Reps.of_ints zs)) (q zs h1 h2)⟩
  · exact hf.elim
end
end Q
set_option Elab.async false
set_option linter.all false
set_option maxRecDepth 100000
set_option maxHeartbeats 2000000
set_option autoImplicit false
namespace Q
open PySem PySem.Spec PyProof.Rows L2
def SDok (p q : Int) (r : Bool) : Fc → Prop
  | .diff i j => p = i ∧ q = j ∧ r = true
  | .win i w => (w.length ≤ 1000 ∧ (i ≤ p ∧ p < i + w.length) ∧ i ≤ q ∧ q < i + w.length) ∧ r = decide (w[(p - i).toNat]? ≠ w[(q - i).toNat]?)
  | _ => False
theorem sdok_uniq {p q : Int} {r s : Bool} {f : Fc} (h : SDok p q r f) (g : SDok p q s f) : r = s := by
  cases f with
  | same i j => exact h.elim
  | eqv i j l => exact h.elim
  | diff i j => rw [h.2.2, g.2.2]
  | win i w => rw [h.2, g.2]
structure PairsOf (L : List Int) (f : Fc) (P : List (Nat × Nat)) : Prop where
  ok : ∀ ab ∈ P, ab.1 < L.length ∧ ab.2 < L.length ∧ ∃ r, SDok ab.1 ab.2 r f
  viol : Viol L f ↔ ∃ ab ∈ P, L[ab.1]? = L[ab.2]? ∧ SDok ab.1 ab.2 true f
theorem pairs_win {L : List Int} {i : Nat} {w : List Int} {P : List (Nat × Nat)} (h : FcOk L.length (.win i w)) (hw : w.length ≤ 1000) (hP : ∀ a b, (a, b) ∈ P ↔ i ≤ a ∧ a < b ∧ b < i + w.length) : PairsOf L (.win i w) P := by
  obtain ⟨_, h2⟩ := h
  refine ⟨fun ab m => ?_, ⟨fun ⟨a, b, h3, h4, h5, h6⟩ => ⟨(i + a, i + b), (hP _ _).mpr ⟨by omega, by omega, by omega⟩, h5, ?_⟩, fun ⟨ab, m, e, s⟩ => ?_⟩⟩
  · obtain ⟨a, b⟩ := ab
    obtain ⟨h3, h4, h5⟩ := (hP a b).mp m
    exact ⟨by show a < _; omega, by show b < _; omega, _, ⟨hw, ⟨by show (i : Int) ≤ a; omega, by show (a : Int) < _; omega⟩, by show (i : Int) ≤ b; omega, by show (b : Int) < _; omega⟩, rfl⟩
  · refine ⟨⟨hw, ⟨by show (i : Int) ≤ (i + a : Nat); omega, by show ((i + a : Nat) : Int) < _; omega⟩, by show (i : Int) ≤ (i + b : Nat); omega, by show ((i + b : Nat) : Int) < _; omega⟩, (decide_eq_true ?_).symm⟩
    rw [show (((i + a : Nat) : Int) - i).toNat = a by omega, show (((i + b : Nat) : Int) - i).toNat = b by omega]
    exact h6
  · obtain ⟨a, b⟩ := ab
    obtain ⟨h3, h4, h5⟩ := (hP a b).mp m
    obtain ⟨_, s⟩ := s
    have s := of_decide_eq_true s.symm
    rw [show ((a : Int) - i).toNat = a - i by omega, show ((b : Int) - i).toNat = b - i by omega] at s
    refine ⟨a - i, b - i, by omega, by omega, ?_, s⟩
    rw [show i + (a - i) = a by omega, show i + (b - i) = b by omega]
    exact e
def rowP (i o n : Nat) : List (Nat × Nat) := (List.range (n - (o + 1))).map fun d => (i + o, i + o + 1 + d)
def winP (i n : Nat) : Nat → List (Nat × Nat)
  | 0 => []
  | m + 1 => winP i n m ++ rowP i m n
theorem rowP_mem {i o n a b : Nat} : (a, b) ∈ rowP i o n ↔ a = i + o ∧ a < b ∧ b < i + n := by
  unfold rowP
  simp only [List.mem_map, List.mem_range, Prod.mk.injEq]
  exact ⟨fun ⟨d, h, h1, h2⟩ => ⟨by omega, by omega, by omega⟩, fun ⟨h1, h2, h3⟩ => ⟨b - a - 1, by omega, by omega, by omega⟩⟩
theorem winP_mem {i n a b : Nat} : ∀ m, (a, b) ∈ winP i n m ↔ i ≤ a ∧ a < i + m ∧ a < b ∧ b < i + n
  | 0 => by unfold winP; simp only [List.not_mem_nil, false_iff]; omega
  | m + 1 => by
    unfold winP
    rw [List.mem_append, winP_mem m, rowP_mem]
    omega
theorem winP_len (i n : Nat) : ∀ m, (winP i n m).length ≤ m * n
  | 0 => by simp [winP]
  | m + 1 => by
    have := winP_len i n m
    unfold winP rowP
    rw [List.length_append, List.length_map, List.length_range, Nat.succ_mul]
    omega
theorem pairs_winP {L : List Int} {i : Nat} {w : List Int} (h : FcOk L.length (.win i w)) (hw : w.length ≤ 1000) : PairsOf L (.win i w) (winP i w.length w.length) :=
  pairs_win h hw fun a b => by rw [winP_mem]; omega
end Q
set_option Elab.async false
set_option linter.all false
set_option maxRecDepth 100000
set_option maxHeartbeats 2000000
set_option autoImplicit false
namespace Q
open PySem PySem.Spec PyProof.Rows L2
theorem intIn_of {lo hi i : Int} (h1 : lo ≤ i) (h2 : i ≤ hi) : intIn lo (.int hi) (.int i) = true := by
  simp [intIn, leO, h1, h2]
theorem two_of {n i j : Nat} (h1 : i < n) (h2 : j < n) (h3 : i ≠ j) : twoP n (.int i) (.int j) = true := by
  unfold twoP
  rw [intIn_of (by omega) (by omega), intIn_of (by omega) (by omega)]
  have h4 : ¬ ((i : Int) = j) := fun e => h3 (by omega)
  simp [toI]
  exact decide_eq_false h4
theorem factP_of {n : Nat} {f : Fc} {ps : List D} (hn : n ≤ 60) (h : FcP f ps) (ok : FcOk n f) : factP n ps = true := by
  cases h with
  | same => simp only [factP]; rw [two_of ok.1 ok.2.1 ok.2.2]; simp [isWord]
  | diff => simp only [factP]; rw [two_of ok.1 ok.2.1 ok.2.2]; simp [isWord]
  | @eqv i j l =>
    obtain ⟨h1, h2, h3, h4⟩ := ok
    simp only [factP]
    rw [two_of (by omega) (by omega) h1, intIn_of (by omega) (by show (l : Int) ≤ n - max (i : Int) j; omega)]
    simp [isWord]
  | @winL i w =>
    obtain ⟨h1, h2⟩ := ok
    simp only [factP]
    rw [intIn_of (by omega) (by omega), isDist_l (by omega : w.length ≤ 400), show (itemsOf (.lst ((dist w).map .int))).length = w.length from (by show ((dist w).map D.int).length = _; rw [List.length_map, dist_length]), show inWin (n : Int) (toI (.int (i : Int))) w.length = true from decide_eq_true ⟨h1, by show (w.length : Int) ≤ n - (i : Int); omega⟩, show isWord "window" (.str (Str.ofString "window")) = true from (by unfold isWord; exact decide_eq_true rfl)]
    simp
  | @winT i w =>
    obtain ⟨h1, h2⟩ := ok
    simp only [factP]
    rw [intIn_of (by omega) (by omega), isDist_t (by omega : w.length ≤ 400), show (itemsOf (.tup ((dist w).map .int))).length = w.length from (by show ((dist w).map D.int).length = _; rw [List.length_map, dist_length]), show inWin (n : Int) (toI (.int (i : Int))) w.length = true from decide_eq_true ⟨h1, by show (w.length : Int) ≤ n - (i : Int); omega⟩, show isWord "window" (.str (Str.ofString "window")) = true from (by unfold isWord; exact decide_eq_true rfl)]
    simp
theorem fact_is {n : Nat} {f : Fc} {d : D} (hn : n ≤ 60) (h : FcAt f d) (ok : FcOk n f) : isFact n d = true := by
  cases h with
  | lst h => exact factP_of hn h ok
  | tup h => exact factP_of hn h ok
end Q
set_option Elab.async false
set_option linter.all false
set_option maxRecDepth 100000
set_option maxHeartbeats 2000000
set_option autoImplicit false
namespace Q
open PySem PySem.Spec PyProof.Rows L2
def Fit (n : Nat) (fc : List Fc) (u : List Int) : Prop := u.length = n ∧ ∀ f ∈ fc, Says u f
theorem Closed.fits {n : Nat} {fc : List Fc} {L : List Int} (c : Closed n fc L) (hv : ∀ f ∈ fc, ¬ Viol L f) : Fit n fc L :=
  ⟨c.len, fun f hf => (says_iff (c.made f hf)).mpr (hv f hf)⟩
theorem Closed.no {n : Nat} {fc : List Fc} {L : List Int} (c : Closed n fc L) (ok : ∀ f ∈ fc, FcOk n f) {u : List Int} (h : Fit n fc u) : ∀ f ∈ fc, ¬ Viol L f :=
  fun f hf => no_viol c.len (c.resp u h.1 h.2) (ok f hf) (h.2 f hf)
theorem Closed.all {n : Nat} {fc : List Fc} {L : List Int} (c : Closed n fc L) {u : List Int} (h : Fit n fc u) {i j : Nat} (hi : i < n) (hj : j < n) (e : L[i]? = L[j]?) : u[i]? = u[j]? :=
  c.resp u h.1 h.2 i j (by rw [c.len]; exact hi) (by rw [c.len]; exact hj) e
theorem fit_same {n : Nat} {fc : List Fc} {u : List Int} {i j : Nat} : Fit n (fc ++ [.same i j]) u ↔ Fit n fc u ∧ u[i]? = u[j]? := by
  constructor
  · exact fun h => ⟨⟨h.1, fun f hf => h.2 f (List.mem_append_left _ hf)⟩, h.2 (.same i j) (List.mem_append_right _ (List.mem_singleton.mpr rfl))⟩
  · rintro ⟨h, e⟩
    refine ⟨h.1, fun f hf => ?_⟩
    rcases List.mem_append.mp hf with hf | hf
    · exact h.2 f hf
    · cases List.mem_singleton.mp hf
      exact e
inductive Rel2 (n : Nat) (fc : List Fc) (i j : Nat) : String → Prop
  | same (u : List Int) : Fit n fc u → (∀ v, Fit n fc v → v[i]? = v[j]?) → Rel2 n fc i j "same"
  | diff (u : List Int) : Fit n fc u → (∀ v, Fit n fc v → v[i]? ≠ v[j]?) → Rel2 n fc i j "different"
  | unk (u v : List Int) : Fit n fc u → u[i]? = u[j]? → Fit n fc v → v[i]? ≠ v[j]? → Rel2 n fc i j "unknown"
end Q
set_option Elab.async false
set_option linter.all false
set_option maxRecDepth 100000
set_option maxHeartbeats 2000000
set_option autoImplicit false
namespace Q
open PySem PySem.Spec PyProof.Rows L2
theorem dist_alike {u w : List Int} : dist u = dist w ↔ Alike u w :=
  ⟨fun h => (ids_alike u).symm.trans (by rw [h]; exact ids_alike w), Alike.dist⟩
theorem says_win {u w : List Int} {i : Nat} (h : i + w.length ≤ u.length) : Says u (.win i w) ↔ dist (segN u i w.length) = dist w := by
  rw [dist_alike]
  have hl := segN_len h
  refine ⟨fun s => ⟨hl, fun a b ha hb => ?_⟩, fun s a b ha hb => ?_⟩
  · rw [segN_get (by omega), segN_get (by omega)]
    exact s a b (by omega) (by omega)
  · have := s.2 a b (by omega) (by omega)
    rw [segN_get ha, segN_get hb] at this
    exact this
theorem says_eqvD {u : List Int} {i j l : Nat} (h : i + l ≤ u.length) (h2 : j + l ≤ u.length) : Says u (.eqv i j l) ↔ dist (segN u i l) = dist (segN u j l) := by
  rw [dist_alike]
  have hl := segN_len h
  have hl2 := segN_len h2
  refine ⟨fun s => ⟨by omega, fun a b ha hb => ?_⟩, fun s a b ha hb => ?_⟩
  · rw [segN_get (by omega), segN_get (by omega), segN_get (by omega), segN_get (by omega)]
    exact s a b (by omega) (by omega)
  · have := s.2 a b (by omega) (by omega)
    rw [segN_get ha, segN_get hb, segN_get ha, segN_get hb] at this
    exact this
end Q
set_option Elab.async false
set_option linter.all false
set_option maxRecDepth 100000
set_option maxHeartbeats 2000000
set_option autoImplicit false
namespace Q
open PySem PySem.Spec PyProof.Rows L2
end Q
set_option Elab.async false
set_option linter.all false
set_option maxRecDepth 100000
set_option maxHeartbeats 2000000
set_option autoImplicit false
namespace Q
open PySem PySem.Spec PyProof.Rows L2
end Q
namespace Q
end Q
set_option Elab.async false
set_option linter.all false
set_option maxRecDepth 100000
set_option maxHeartbeats 2000000
set_option autoImplicit false
namespace Q
open PySem PySem.Spec PyProof.Rows L2
def ExcU (K : Fg) (mg : Str → Option Value) (c : Value) (names : List Str) (ct : Str → Bool) : Prop := ∀ nm ∈ names, mg nm = some (.ref (He.ga K nm)) ∧ PySem.W.exmOne K (.ref (He.ga K nm)) c = some (ct nm)
theorem ExcW.caught {K : Fg} {mg : Str → Option Value} {names ys : List Str} (T : ExcW K mg names ys) (hs : ∀ nm ∈ names, nm ∈ ys) {y : Str} (hy : y ∈ ys) : ExcU K mg (.ref (He.ga K y)) names (fun nm => subE nm y) :=
  fun nm hn => ⟨T.gl nm (hs nm hn), T.exc nm hn y hy⟩
section
variable {X : Cx} {g : Gd} {W : WX} {x : Str} {c : Value} {names : List Str} {ct : Str → Bool} {body : List Stmt} {np pos pos' pr : Pos} {tb : WX → List (Addr × Obj) → (Value → Shared → Prop) → TS} {qb : TSq} {e : Expr} {v : V} {d : D}
def qTryC (names : List Str) (ct : Str → Bool) (d : D) (qb : TSq) : TSq := fun DQ env => qb { DQ with ex := fun nm pay env1 => nm ∈ names ∧ cIf (ct nm) (fun _ => DQ.rt (.sh d) env1) (fun _ => DQ.ex nm pay env1) } env
theorem qs_tryC (hs : X.stack = X.env :: X.outer) (hf : X.env.frame = some X.env.locals) (hc : Names X x c) (tk : Takes X W) (T : ExcU X.K X.mg c names ct)
    (hb : ∀ (W : WX) (pn : List (Addr × Obj)) (xe : Value → Shared → Prop), Takes (X.tr pn xe) W → QSs (X.tr pn xe) g W body (tb W pn xe) qb)
    (he : ∀ Y : Cx, PE Y e (tC v)) (hv : scalar d = some v)
    (htb : ∀ (W : WX) (pn : List (Addr × Obj)) (xe : Value → Shared → Prop), tb W pn xe = tb W [] (fun _ _ => True) := by exact fun _ _ _ => rfl) :
    QS X g W (.Try body [.ExceptHandler (some (.Name x np)) none [.Return (some e) pr] pos'] [] [] pos) (fun D σ H => tb (wOnly X.K c (fun _ _ _ => tRet (tC v)) W D) [] (fun _ _ => True) D σ H) (qTryC names ct d qb) := by
  refine ⟨ps_try_only (tb := fun W => tb W [] (fun _ _ => True)) (ts := fun _ _ _ => tRet (tC v)) hs hf hc tk (fun W pn xe tk _ => by rw [← htb W pn xe]; exact (hb W pn xe tk).pss) (fun a oe cls d pn _ _ => pss_one (ps_ret (he _))), fun N F P S b σ H env DQ D R hq k => ?_⟩
  refine ((hb (wOnly X.K c (fun _ _ _ => tRet (tC v)) W D) [] (fun _ _ => True) fun _ _ _ => trivial).sm N) F P S b σ H env _ D R hq ⟨k.nx, k.rt, k.bk, k.ct, fun nm pay env1 S1 σ1 H1 C d' R1 e1 hE hm hp => ?_⟩
  obtain ⟨hn, hE⟩ := hE
  obtain ⟨h1, h2⟩ := T nm hn
  have hC : C = He.ga X.K nm := by
    have hm : X.mg nm = some (.ref C) := hm
    rw [h1] at hm
    injection hm with hm
    injection hm with hm
    exact hm.symm
  subst hC
  refine ⟨ct nm, h2, fun hct a ha => ?_, fun hct => ?_⟩
  · rw [hct] at hE
    exact k.rt S1 σ1 H1 env1 v (.sh d) R1 e1 (Rep.scal hv) hE
  · rw [hct] at hE
    exact k.ex nm pay env1 S1 σ1 H1 _ d' R1 e1 hE h1 hp
theorem e_tryC {names : List Str} {ct : Str → Bool} {d : D} {qb : TSq} {DQ : Ens} {env : En} : qTryC names ct d qb DQ env = qb { DQ with ex := fun nm pay env1 => nm ∈ names ∧ cIf (ct nm) (fun _ => DQ.rt (.sh d) env1) (fun _ => DQ.ex nm pay env1) } env := rfl
end
end Q
namespace Q
inductive Rel3 (us : List (List Int)) (i j : Nat) : String → Prop
  | same : us ≠ [] → (∀ u ∈ us, u[i]? = u[j]?) → Rel3 us i j "same"
  | diff : us ≠ [] → (∀ u ∈ us, u[i]? ≠ u[j]?) → Rel3 us i j "different"
  | unk (u v : List Int) : u ∈ us → u[i]? = u[j]? → v ∈ us → v[i]? ≠ v[j]? → Rel3 us i j "unknown"
end Q
namespace Q
theorem dd_le (u : List Int) : (dd u).length ≤ u.length := by
  have key : ∀ (n : Nat) (u : List Int), u.length = n → (dd u).length ≤ n := by
    intro n
    induction n with
    | zero =>
      intro u h
      rw [List.eq_nil_of_length_eq_zero h]
      exact Nat.le_of_eq (by decide)
    | succ n ih =>
      intro v h
      have hv : v ≠ [] := fun e => by rw [e] at h; cases h
      have ev := (List.dropLast_concat_getLast hv).symm
      generalize v.dropLast = w at ev
      generalize v.getLast hv = x at ev
      subst ev
      have := ih w (by simpa using h)
      rw [dd_snoc]
      split
      · omega
      · rw [List.length_append]
        show _ + 1 ≤ _
        omega
  exact key u.length u rfl
end Q
namespace Q
def WinL (ps : List D) : Prop := ∀ (a b : D) (us : List D), ps ≠ [a, b, .tup us]
theorem winl_i {a b c : D} {i : Int} (h : c = .int i) : WinL [a, b, c] := fun x y us e => by
  subst h
  have e1 := List.cons.inj e
  have e2 := List.cons.inj e1.2
  have e3 := List.cons.inj e2.2
  cases e3.1
theorem winl_no {a b c : D} {l : List D} (h : c = .lst l) : WinL [a, b, c] := fun x y us e => by
  subst h
  have e1 := List.cons.inj e
  have e2 := List.cons.inj e1.2
  have e3 := List.cons.inj e2.2
  cases e3.1
theorem winl_4 {a b c d : D} : WinL [a, b, c, d] := fun x y us e => by
  have := congrArg List.length e
  simp at this
end Q
set_option Elab.async false
set_option linter.all false
set_option maxRecDepth 100000
set_option maxHeartbeats 2000000
set_option autoImplicit false
namespace Q
open PySem PySem.Spec PyProof.Rows L2
end Q
namespace Q
open PySem PySem.Spec PyProof.Rows L2
theorem Rel3.ne {vs : List (List Int)} {i j : Nat} {s : String} (h : Rel3 vs i j s) : vs ≠ [] := by
  cases h with
  | same h _ => exact h
  | diff h _ => exact h
  | unk u v h => exact fun e => by rw [e] at h; cases h
theorem Rel2.fit {n : Nat} {fc : List Fc} {i j : Nat} {s : String} (h : Rel2 n fc i j s) : ∃ u, Fit n fc u := by
  cases h with
  | same u h => exact ⟨u, h⟩
  | diff u h => exact ⟨u, h⟩
  | unk u v h => exact ⟨u, h⟩
end Q
set_option Elab.async false
set_option linter.all false
set_option maxRecDepth 100000
set_option maxHeartbeats 2000000
set_option autoImplicit false
namespace Q
open PySem PySem.Spec PyProof.Rows L2
structure PF (n : Nat) (L : List Int) (fs : List Fc) (P : List (Nat × Nat)) : Prop where
  bd : ∀ pq ∈ P, pq.1 < n ∧ pq.2 < n
  snd : ∀ u : List Int, u.length = n → Resp L u → (∀ f ∈ fs, Says u f) → ∀ pq ∈ P, u[pq.1]? = u[pq.2]?
  cmp : (∀ pq ∈ P, L[pq.1]? = L[pq.2]?) → ∀ f ∈ fs, Made L f
theorem pf_nil (n : Nat) (L : List Int) : PF n L [] [] := ⟨by simp, by simp, by simp⟩
theorem PF.app {n : Nat} {L : List Int} {fs gs : List Fc} {P R : List (Nat × Nat)} (h : PF n L fs P) (k : PF n L gs R) : PF n L (fs ++ gs) (P ++ R) where
  bd := fun pq hp => by
    rcases List.mem_append.mp hp with hp | hp
    · exact h.bd pq hp
    · exact k.bd pq hp
  snd := fun u hu r hs pq hp => by
    rcases List.mem_append.mp hp with hp | hp
    · exact h.snd u hu r (fun f hf => hs f (List.mem_append_left _ hf)) pq hp
    · exact k.snd u hu r (fun f hf => hs f (List.mem_append_right _ hf)) pq hp
  cmp := fun hp f hf => by
    rcases List.mem_append.mp hf with hf | hf
    · exact h.cmp (fun pq hq => hp pq (List.mem_append_left _ hq)) f hf
    · exact k.cmp (fun pq hq => hp pq (List.mem_append_right _ hq)) f hf
theorem pf_same {n i j : Nat} {L : List Int} (ok : FcOk n (.same i j)) : PF n L [.same i j] [(i, j)] where
  bd := fun pq hp => by rw [List.mem_singleton.mp hp]; exact ⟨ok.1, ok.2.1⟩
  snd := fun u _ _ hs pq hp => by rw [List.mem_singleton.mp hp]; exact hs _ List.mem_cons_self
  cmp := fun hp f hf => by rw [List.mem_singleton.mp hf]; exact hp _ List.mem_cons_self
theorem pf_diff {n i j : Nat} {L : List Int} : PF n L [.diff i j] [] where
  bd := by simp
  snd := by simp
  cmp := fun hp f hf => by rw [List.mem_singleton.mp hf]; trivial
def shL (w : List Int) (t : Nat) : List (Nat × Nat) := (lnks w).map fun pq => (t + pq.1, t + pq.2)
theorem shL_mem {w : List Int} {t : Nat} {x : Nat × Nat} : x ∈ shL w t ↔ ∃ p q, LinkOf w p q ∧ x = (t + p, t + q) := by
  unfold shL
  rw [List.mem_map]
  constructor
  · rintro ⟨⟨p, q⟩, h, rfl⟩
    exact ⟨p, q, lnks_mem.mp h, rfl⟩
  · rintro ⟨p, q, h, rfl⟩
    exact ⟨(p, q), lnks_mem.mpr h, rfl⟩
theorem pf_win {n i : Nat} {w L : List Int} (ok : FcOk n (.win i w)) : PF n L [.win i w] (shL w i) where
  bd := fun pq hp => by
    obtain ⟨p, q, h, rfl⟩ := shL_mem.mp hp
    obtain ⟨h1, h2⟩ := ok
    have := h.1
    have := h.2.1
    exact ⟨by show i + p < n; omega, by show i + q < n; omega⟩
  snd := fun u _ _ hs pq hp => by
    obtain ⟨p, q, h, rfl⟩ := shL_mem.mp hp
    have := h.1
    exact (hs _ List.mem_cons_self p q (by have := h.2.1; omega) h.2.1).mpr h.2.2.1
  cmp := fun hp f hf => by
    rw [List.mem_singleton.mp hf]
    intro a b ha hb e
    exact links_all (w := w) (E := fun a b => L[i + a]? = L[i + b]?) (fun _ => rfl) (fun _ _ e => e.symm) (fun _ _ _ e1 e2 => e1.trans e2) (fun p q h => hp (i + p, i + q) (shL_mem.mpr ⟨p, q, h, rfl⟩)) a b ha hb e
theorem seg_link {L : List Int} {s l p q : Nat} (hs : s + l ≤ L.length) (h : LinkOf (segN L s l) p q) : p < q ∧ q < l ∧ L[s + p]? = L[s + q]? := by
  obtain ⟨h1, h2, h3, _⟩ := h
  rw [segN_len hs] at h2
  rw [segN_get (by omega), segN_get h2] at h3
  exact ⟨h1, h2, h3⟩
theorem pf_eqv {n i j l : Nat} {L : List Int} (hL : L.length = n) (ok : FcOk n (.eqv i j l)) : PF n L [.eqv i j l] (shL (segN L i l) j ++ shL (segN L j l) i) := by
  obtain ⟨h1, h2, h3, h4⟩ := ok
  constructor
  · intro pq hp
    rcases List.mem_append.mp hp with hp | hp
    · obtain ⟨p, q, h, rfl⟩ := shL_mem.mp hp
      obtain ⟨a1, a2, _⟩ := seg_link (by omega) h
      exact ⟨by show j + p < n; omega, by show j + q < n; omega⟩
    · obtain ⟨p, q, h, rfl⟩ := shL_mem.mp hp
      obtain ⟨a1, a2, _⟩ := seg_link (by omega) h
      exact ⟨by show i + p < n; omega, by show i + q < n; omega⟩
  · intro u hu r hs pq hp
    have hs := hs _ List.mem_cons_self
    rcases List.mem_append.mp hp with hp | hp
    · obtain ⟨p, q, h, rfl⟩ := shL_mem.mp hp
      obtain ⟨a1, a2, a3⟩ := seg_link (by omega) h
      exact (hs p q (by omega) a2).mp (r (i + p) (i + q) (by omega) (by omega) a3)
    · obtain ⟨p, q, h, rfl⟩ := shL_mem.mp hp
      obtain ⟨a1, a2, a3⟩ := seg_link (by omega) h
      exact (hs p q (by omega) a2).mpr (r (j + p) (j + q) (by omega) (by omega) a3)
  · intro hp f hf
    rw [List.mem_singleton.mp hf]
    refine ⟨fun a b ha hb e => ?_, fun a b ha hb e => ?_⟩
    · exact links_all (w := segN L i l) (E := fun a b => L[j + a]? = L[j + b]?) (fun _ => rfl) (fun _ _ e => e.symm) (fun _ _ _ e1 e2 => e1.trans e2) (fun p q h => hp (j + p, j + q) (List.mem_append_left _ (shL_mem.mpr ⟨p, q, h, rfl⟩))) a b (by rw [segN_len (by omega)]; exact ha) (by rw [segN_len (by omega)]; exact hb) (by rw [segN_get ha, segN_get hb]; exact e)
    · exact links_all (w := segN L j l) (E := fun a b => L[i + a]? = L[i + b]?) (fun _ => rfl) (fun _ _ e => e.symm) (fun _ _ _ e1 e2 => e1.trans e2) (fun p q h => hp (i + p, i + q) (List.mem_append_right _ (shL_mem.mpr ⟨p, q, h, rfl⟩))) a b (by rw [segN_len (by omega)]; exact ha) (by rw [segN_len (by omega)]; exact hb) (by rw [segN_get ha, segN_get hb]; exact e)
def Snd (n : Nat) (fc : List Fc) (L : List Int) : Prop := L.length = n ∧ ∀ u : List Int, Fit n fc u → Resp L u
theorem snd_start (n : Nat) (fc : List Fc) : Snd n fc (upto n) := ⟨upto_length n, fun u h => (half_start n fc).resp u h.1 h.2⟩
structure Pass (n : Nat) (fc : List Fc) (L0 : List Int) (P : List (Nat × Nat)) (m : Nat) (L : List Int) (c : Bool) : Prop where
  snd : Snd n fc L
  less : c = true → (dd L).length < (dd L0).length
  le : (dd L).length ≤ (dd L0).length
  same : c = false → L = L0 ∧ ∀ pq ∈ P.take m, L[pq.1]? = L[pq.2]?
theorem pass_start {n : Nat} {fc : List Fc} {L : List Int} {P : List (Nat × Nat)} (h : Snd n fc L) : Pass n fc L P 0 L false := ⟨h, (fun h => nomatch h), Nat.le_refl _, fun _ => ⟨rfl, by simp⟩⟩
theorem Pass.step {n : Nat} {fc : List Fc} {L0 L : List Int} {P : List (Nat × Nat)} {m : Nat} {c : Bool} (h : Pass n fc L0 P m L c) (pf : PF n L0 fc P) (h0 : Snd n fc L0) {pq : Nat × Nat} (hp : P[m]? = some pq) {a b : Int} (ha : L[pq.1]? = some a) (hb : L[pq.2]? = some b) :
    Pass n fc L0 P (m + 1) (mrg L a b) (c || decide (a ≠ b)) := by
  have g := grew_mrg (P := fun u => Fit n fc u) ha hb (fun u _ hu => pf.snd u hu.1 (h0.2 u hu) hu.2 pq (List.mem_of_getElem? hp))
  have gl := g.le
  refine ⟨⟨g.len.trans h.snd.1, fun u hu => g.resp u (h.snd.2 u hu) hu⟩, fun e => ?_, Nat.le_trans gl h.le, fun e => ?_⟩
  · cases hc : c with
    | true => exact Nat.lt_of_le_of_lt gl (h.less hc)
    | false =>
      rw [hc, Bool.false_or] at e
      exact Nat.lt_of_lt_of_le (g.less e) h.le
  · rw [Bool.or_eq_false_iff] at e
    have e1 := g.same e.2
    obtain ⟨e2, e3⟩ := h.same e.1
    rw [e1]
    refine ⟨e2, fun x hx => ?_⟩
    rw [List.take_add_one, hp] at hx
    rcases List.mem_append.mp hx with hx | hx
    · exact e3 x hx
    · rw [List.mem_singleton.mp (show x ∈ [pq] from hx), ha, hb]
      have : a = b := Classical.byContradiction fun z => (of_decide_eq_false e.2) z
      rw [this]
theorem Pass.closed {n : Nat} {fc : List Fc} {L0 L : List Int} {P : List (Nat × Nat)} (h : Pass n fc L0 P P.length L false) (pf : PF n L0 fc P) : Closed n fc L := by
  obtain ⟨e1, e2⟩ := h.same rfl
  rw [List.take_length] at e2
  refine ⟨h.snd.1, ?_, fun u hu hs => h.snd.2 u ⟨hu, hs⟩⟩
  subst e1
  exact pf.cmp e2
theorem closed_alike {n : Nat} {fc : List Fc} {L M : List Int} (h : Closed n fc L) (k : Closed n fc M) (f1 : Fit n fc L) (f2 : Fit n fc M) : Alike L M :=
  ⟨h.len.trans k.len.symm, fun i j hi hj => ⟨fun e => h.resp M f2.1 f2.2 i j hi hj e, fun e => k.resp L f1.1 f1.2 i j (by rw [k.len, ← h.len]; exact hi) (by rw [k.len, ← h.len]; exact hj) e⟩⟩
end Q
namespace Q
open PySem PySem.Spec PyProof.Rows L2
def lkI (w : List Int) : List Int := (upto w.length).filter fun q => decide (0 < dAt w q.toNat)
theorem lkI_len (w : List Int) : (lkI w).length ≤ w.length := by
  have := List.length_filter_le (fun q : Int => decide (0 < dAt w q.toNat)) (upto w.length)
  rw [upto_length] at this
  exact this
theorem lkI_shL (w : List Int) (t : Nat) : (lkI w).map (fun q => D.tup [.int ((t : Int) + q - dAt w q.toNat), .int ((t : Int) + q)]) = (shL w t).map Q.prD := by
  unfold lkI shL lnks upto
  rw [List.filter_map, List.map_map, List.map_map, List.map_map]
  refine List.map_congr_left fun o ho => ?_
  have h2 := of_decide_eq_true (List.mem_filter.mp ho).2
  have hb := dAt_bounds w o
  show D.tup [.int ((t : Int) + (o : Int) - dAt w ((o : Int)).toNat), .int ((t : Int) + (o : Int))] = D.tup [.int (((t + (o - (dAt w o).toNat) : Nat)) : Int), .int ((t + o : Nat) : Int)]
  rw [Int.toNat_natCast]
  congr 3
  · congr 1
    omega
theorem shL_len (w : List Int) (t : Nat) : (shL w t).length ≤ w.length := by
  have := congrArg List.length (lkI_shL w t)
  rw [List.length_map, List.length_map] at this
  have := lkI_len w
  omega
theorem lkI_bd {w : List Int} {q : Int} (h : q ∈ lkI w) : 0 ≤ q ∧ q < w.length := upto_mem.mp (List.mem_filter.mp h).1
end Q
namespace Q
theorem min_if (a b : Int) : (if b < a then b else a) = min a b := by
  by_cases h : b < a
  · rw [if_pos h, Int.min_eq_right (by omega)]
  · rw [if_neg h, Int.min_eq_left (by omega)]
theorem max_if (a b : Int) : (if b > a then b else a) = max a b := by
  by_cases h : b > a
  · rw [if_pos h, Int.max_eq_right (by omega)]
  · rw [if_neg h, Int.max_eq_left (by omega)]
end Q
set_option Elab.async false
set_option linter.all false
set_option maxRecDepth 100000
set_option maxHeartbeats 2000000
set_option autoImplicit false
namespace Q
open PySem PySem.Spec PyProof.Rows L2
theorem cut1 {a r : TSq} {DQ : Ens} {env : En} (hh : ∀ (R : TSq) (E : Ens), R = r → E = DQ → (qSeq a R) E env) : (qSeq a r) DQ env := hh r DQ rfl rfl
theorem cut2 {a b r : TSq} {DQ : Ens} {env : En} (hh : ∀ (R : TSq) (E : Ens), R = r → E = DQ → (qSeq a (qSeq b R)) E env) : (qSeq a (qSeq b r)) DQ env := hh r DQ rfl rfl
theorem cut3 {a b c r : TSq} {DQ : Ens} {env : En} (hh : ∀ (R : TSq) (E : Ens), R = r → E = DQ → (qSeq a (qSeq b (qSeq c R))) E env) : (qSeq a (qSeq b (qSeq c r))) DQ env := hh r DQ rfl rfl
theorem cut4 {a b c d r : TSq} {DQ : Ens} {env : En} (hh : ∀ (R : TSq) (E : Ens), R = r → E = DQ → (qSeq a (qSeq b (qSeq c (qSeq d R)))) E env) : (qSeq a (qSeq b (qSeq c (qSeq d r)))) DQ env := hh r DQ rfl rfl
theorem rel2_one {n : Nat} {fc : List Fc} {i j : Nat} {s t : String} (h : Rel2 n fc i j s) (k : Rel2 n fc i j t) : s = t := by
  cases h with
  | same u hu ha =>
    cases k with
    | same => rfl
    | diff v hv hd => exact absurd (ha u hu) (hd u hu)
    | unk v w hv he hw hn => exact absurd (ha w hw) hn
  | diff u hu ha =>
    cases k with
    | same v hv hs => exact absurd (hs u hu) (ha u hu)
    | diff => rfl
    | unk v w hv he hw hn => exact absurd he (ha v hv)
  | unk v w hv he hw hn =>
    cases k with
    | same u hu hs => exact absurd (hs w hw) hn
    | diff u hu hd => exact absurd he (hd v hv)
    | unk => rfl
end Q
set_option Elab.async false
set_option linter.all false
set_option maxRecDepth 100000
set_option maxHeartbeats 4000000

namespace Lw
open PySem PySem.Spec PyProof.Rows L2 Q
local macro_rules | `(tactic| walk_at "p") => `(tactic| (repeat (rw [pkV]; try walk_at "q")))
local macro_rules | `(tactic| walk_at "len") => `(tactic| (first | omega | (simp only [List.length_map, List.length_append, List.length_reverse, List.length_take, List.length_drop, List.length_dropLast, List.length_cons, List.length_nil, List.length_set, List.length_replicate, dist_length, nxt_length, idsD_length, numbered_length, ranged_length, upto_length]; omega)))
local macro_rules | `(tactic| walk_at "q") => `(tactic| (try simp only [↓hold1, ↓hold2, ↓cIf_t, ↓cIf_f, ↓lk0, ↓lk1, ↓st0, ↓st1, ↓wp0, ↓wp1, ↓wpm, ↓wpn, ↓sD_sh, ↓sD_own, ↓sD_bor, ↓rd_d, ↓rd_p, ↓dB_b, ↓dI_i, ↓dX_x, ↓dK_i, ↓dK_s, ↓dL_l, ↓dIt_l, ↓dIt_t, ↓dIt_s, ↓shS_sh, ↓shS_own, ↓shS_bor, ↓sh1_d, ↓sh1_p, ↓shs0, ↓shs1, ↓ress0, ↓ress1, ↓bagS_b, ↓arg_bor, ↓arg_sh, ↓arg_bag, ↓args0, ↓args1, ↓ap0, ↓ap0', ↓ap1, ↓reS_sh, ↓reS_own, ↓reS_bor, ↓ret_d, ↓ret_p, ↓asS_sh, ↓asS_own, ↓asS_bor, ↓as_d, ↓as_p, ↓rv_sh, ↓rv_own, ↓da_sh, ↓da_own, ↓itS_sh, ↓itS_own, ↓itS_bor, ↓it_d, ↓it_p, ↓e_var, ↓e_sh, ↓e_own, ↓e_bor, ↓e_bag, ↓e_c, ↓e_op, ↓e_opR, ↓e_test, ↓e_and, ↓e_or, ↓e_not, ↓e_andV, ↓e_orV, ↓e_notV, ↓e_ifE, ↓e_nil, ↓e_cons, ↓e_cb, ↓e_cbR, ↓e_ofN, ↓e_lst, ↓e_tup, ↓e_call, ↓e_callS, ↓e_next, ↓e_seq, ↓e_drop, ↓e_ret, ↓e_retN, ↓e_if, ↓e_set, ↓e_setN, ↓e_raise, ↓e_name, ↓e_gnil, ↓e_gcons, ↓e_gtup, ↓e_for, ↓e_seqI, ↓e_enum, ↓rg1_i, ↓rg2_i, ↓e_rng1, ↓e_rng2, ↓e_lc, ↓e_yes, ↓e_onone, ↓e_osome, ↓e_sl, ↓e_isi, ↓e_isi2, ↓ownL_l, ↓ownA_l, ↓sO_o, ↓e_meth, ↓e_dnew, ↓e_dput, ↓e_lput, ↓e_lenSet, ↓e_chain, ↓e_asgT, ↓e_toN, ↓e_parN, ↓e_getD, ↓f_inC, ↓f_inI, ↓f_inIT, ↓f_inS, ↓pkC0, ↓pkC_sh, ↓pkC_own, ↓pkC_bor, ↓pkC_bag, ↓pkC_no, ↓f_ix0, ↓f_ix1, ↓f_ix2, ↓f_ix3, ↓f_ix4, ↓f_ixT0, ↓f_ixT1, ↓f_ixT2, ↓f_ixT3, ↓f_ixT4, ↓e_loopC, ↓e_loopN, ↓e_step, ↓e_exI, ↓e_toI, ↓f_eqW1, ↓f_eqW2, ↓f_eqW3, ↓f_sortI, ↓f_eqNN, ↓f_notScrL, ↓f_notScrT, ↓f_eqSL, ↓f_neSL, ↓f_eqSNil, ↓f_neSNil, ↓f_neNN, ↓e_lstRg1, ↓e_ifN, ↓e_ixl0, ↓e_ixl1, ↓e_ixl2, ↓e_ixl3, ↓e_ixt0, ↓e_ixt1, ↓e_ixt2, ↓e_ixt3, ↓f_inT2S, ↓f_eqNl, ↓e_isEx, ↓f_nonE, ↓f_empC, ↓f_empN, ↓e_dObj, ↓e_lkHit, ↓e_pfHit, ↓e_pfNil, ↓e_fld, ↓e_fput, ↓e_startM, ↓e_mnx, ↓e_mrt, ↓e_mex, ↓e_npN, ↓e_npD, ↓e_npB, ↓e_npP, ↓e_callM, ↓e_callR, ↓e_make, ↓e_ty_int_T, ↓e_ty_int_O, ↓e_ty_bool_T, ↓e_ty_bool_O, ↓e_ty_str_T, ↓e_ty_str_O, ↓e_ty_list_T, ↓e_ty_list_O, ↓e_ty_tuple_T, ↓e_ty_tuple_O, ↓e_ty_dict_T, ↓e_ty_dict_O, ↓e_gunl, ↓f_sortITl, ↓f_sortITt, ↓e_tryC, ↓f_sub, ↓f_mod, ↓f_div, ↓f_divW, ↓f_pow, ↓f_lt, ↓f_le, ↓f_gt, ↓f_ge, ↓f_addI, ↓f_addS, ↓f_addL, ↓f_mulI, ↓f_mulL, ↓f_eqI, ↓f_neI, ↓f_eqS, ↓f_neS, ↓f_eqB, ↓f_neB, ↓f_isN, ↓f_isNotN, ↓f_lenL, ↓f_lenT, ↓f_lenR, ↓f_lenS, ↓f_min, ↓f_max, ↓f_abs, ↓f_intI, ↓f_intB, ↓f_listL, ↓f_listT, ↓f_listS, ↓f_tupL, ↓f_slL, ↓f_slR, ↓f_slT, ↓f_app, ↓f_ext, ↓f_allM, ↓f_anyM, ↓f_eqIL, ↓f_neIL, ↓f_eqIT, ↓f_neIT, ↓f_eqNil, ↓f_neNil, ty_int_n, ty_int_b, ty_int_i, ty_int_s, ty_int_l, ty_int_t, ty_int_r, ty_int_d, ty_int_e, ty_bool_n, ty_bool_b, ty_bool_i, ty_bool_s, ty_bool_l, ty_bool_t, ty_bool_r, ty_bool_d, ty_bool_e, ty_str_n, ty_str_b, ty_str_i, ty_str_s, ty_str_l, ty_str_t, ty_str_r, ty_str_d, ty_str_e, ty_list_n, ty_list_b, ty_list_i, ty_list_s, ty_list_l, ty_list_t, ty_list_r, ty_list_d, ty_list_e, ty_tuple_n, ty_tuple_b, ty_tuple_i, ty_tuple_s, ty_tuple_l, ty_tuple_t, ty_tuple_r, ty_tuple_d, ty_tuple_e, ty_dict_n, ty_dict_b, ty_dict_i, ty_dict_s, ty_dict_l, ty_dict_t, ty_dict_r, ty_dict_d, ty_dict_e, cIf_t, cIf_f, cIf_n, isSc_n, isSc_b, isSc_i, isSc_s, ex_some, Int.reduceLT, Int.reduceLE, Int.reduceGT, Int.reduceGE, Int.reduceEq, Int.reduceNe, Int.reduceAdd, Int.reduceSub, Int.reduceMul, Int.reduceNeg, Int.reduceToNat, Int.reducePow, Nat.reduceLT, Nat.reduceAdd, Nat.reduceSub, Nat.reduceLeDiff, Nat.reduceEqDiff, Nat.reduceMul, Int.cast_ofNat_Int, true_or, true_and, and_true, List.length_cons, List.length_nil, List.length_map, n_n, n_b, n_i, n_s, n_l, n_t, se_c, se_n, se_0, ar_b, ar_s, ar_g, Bool.or_true, Bool.true_or, Bool.or_false, Bool.false_or, Bool.and_true, Bool.true_and, Bool.and_false, Bool.false_and, Bool.not_true, Bool.not_false, Bool.not_not, decide_true, decide_false, int_app, filter_tt, eq_self, Option.map_some, Option.map_none, Option.isSome_some, Option.isSome_none, Bool.false_eq_true, if_false, if_true, Nat.zero_add, Int.zero_add, Int.add_zero, Int.sub_zero, List.map_nil, List.nil_append, List.append_nil, int_rev, int_take, int_drop, int_dropLast, int_appL, e_toI]))

def top (i : Nat) : Stmt := PySem.Challenge.pw_howfarback_k43_what_follows_from_facts.main.body.getD i (.Pass ⟨0, 0, 0, 0⟩)
def mth (i j : Nat) : Stmt := match top i with
  | .ClassDef _ _ _ b _ _ _ _ _ _ _ => b.getD j (.Pass ⟨0, 0, 0, 0⟩)
  | _ => .Pass ⟨0, 0, 0, 0⟩
abbrev s_is_integer_distances : Stmt := top 8
abbrev s_is_sequence_distances : Stmt := top 10
abbrev s_is_distances : Stmt := top 12
abbrev s_is_integer_facts : Stmt := top 21
abbrev s_is_sequence_facts : Stmt := top 23
abbrev s_check_size : Stmt := top 25
abbrev s_are_two_positions : Stmt := top 26
abbrev s_is_fact_of : Stmt := top 27
abbrev s_checked_facts : Stmt := top 28
abbrev s_check_positions : Stmt := top 29
abbrev s_distances_by : Stmt := top 30
abbrev s_linked_offsets : Stmt := top 31
abbrev s_representatives : Stmt := top 32
abbrev s_Partition_merge : Stmt := mth 33 1
abbrev s_Partition_copy_links : Stmt := mth 33 2
abbrev s_Partition_copy_both_ways : Stmt := mth 33 3
abbrev s_Partition_are_equal : Stmt := mth 33 4
abbrev s_Partition_distances : Stmt := mth 33 5
abbrev s_Partition___init__ : Stmt := mth 33 0
abbrev s_window_symbols : Stmt := top 34
abbrev s_states_different : Stmt := top 35
abbrev s_violated_pair : Stmt := top 36
abbrev s_consistent_partition : Stmt := top 37
abbrev s_is_consistent : Stmt := top 38
abbrev s_finest_list : Stmt := top 39
abbrev s_relation : Stmt := top 40
abbrev s__law_spring : Stmt := top 42
abbrev s__law_draw : Stmt := top 43
abbrev s__law_same : Stmt := top 44
abbrev s__law_symbols : Stmt := top 45
abbrev s__law_distances : Stmt := top 46
abbrev s__law_window : Stmt := top 47
abbrev s__law_fact : Stmt := top 48
abbrev s__law_facts : Stmt := top 49
abbrev s__law_holds : Stmt := top 50
abbrev s__law_dressed_facts : Stmt := top 51
abbrev s__law_closure : Stmt := top 52
abbrev s__law_finest : Stmt := top 53
abbrev s__law_relation : Stmt := top 54
abbrev s__law_asked : Stmt := top 55
abbrev s_law : Stmt := top 56
abbrev FnP (K : Fg) (x : Str) (st : Stmt) (dvs : List V) : Prop := ∃ fd, FunD K x x (defArgs st) (defBody st) (defScope st) dvs [] (He.ga K x) fd
abbrev FnQ (K : Fg) (g x : Str) (st : Stmt) (dvs : List V) : Prop := ∃ fd, FunD K x x (defArgs st) (defBody st) (defScope st) dvs [] (He.ga K g) fd
def obN : List Str := ["Partition"]
def exN : List Str := ["Inconsistent", "InvalidFacts", "InvalidNumber", "InvalidPosition"]
def exY : List Str := ["HowFarBackError", "Inconsistent", "InvalidFacts", "InvalidNumber", "InvalidPosition"]
structure Tx (K : Fg) (mg : Str → Option Value) : Prop where
  g_is_integer_distances : mg "is_integer_distances" = some (.ref (He.ga K "is_integer_distances"))
  f_is_integer_distances : FnQ K "is_integer_distances" "is_integer" s_is_integer_distances [.non]
  g_is_sequence_distances : mg "is_sequence_distances" = some (.ref (He.ga K "is_sequence_distances"))
  f_is_sequence_distances : FnQ K "is_sequence_distances" "is_sequence" s_is_sequence_distances []
  g_is_distances : mg "is_distances" = some (.ref (He.ga K "is_distances"))
  f_is_distances : FnQ K "is_distances" "is_distances" s_is_distances []
  g_is_integer_facts : mg "is_integer_facts" = some (.ref (He.ga K "is_integer_facts"))
  f_is_integer_facts : FnQ K "is_integer_facts" "is_integer" s_is_integer_facts []
  g_is_sequence_facts : mg "is_sequence_facts" = some (.ref (He.ga K "is_sequence_facts"))
  f_is_sequence_facts : FnQ K "is_sequence_facts" "is_sequence" s_is_sequence_facts []
  g_check_size : mg "check_size" = some (.ref (He.ga K "check_size"))
  f_check_size : FnQ K "check_size" "check_size" s_check_size []
  g_are_two_positions : mg "are_two_positions" = some (.ref (He.ga K "are_two_positions"))
  f_are_two_positions : FnQ K "are_two_positions" "are_two_positions" s_are_two_positions []
  g_is_fact_of : mg "is_fact_of" = some (.ref (He.ga K "is_fact_of"))
  f_is_fact_of : FnQ K "is_fact_of" "is_fact_of" s_is_fact_of []
  g_checked_facts : mg "checked_facts" = some (.ref (He.ga K "checked_facts"))
  f_checked_facts : FnQ K "checked_facts" "checked_facts" s_checked_facts []
  g_check_positions : mg "check_positions" = some (.ref (He.ga K "check_positions"))
  f_check_positions : FnQ K "check_positions" "check_positions" s_check_positions []
  g_distances_by : mg "distances_by" = some (.ref (He.ga K "distances_by"))
  f_distances_by : FnQ K "distances_by" "distances_by" s_distances_by []
  g_linked_offsets : mg "linked_offsets" = some (.ref (He.ga K "linked_offsets"))
  f_linked_offsets : FnQ K "linked_offsets" "linked_offsets" s_linked_offsets []
  g_representatives : mg "representatives" = some (.ref (He.ga K "representatives"))
  f_representatives : FnQ K "representatives" "representatives" s_representatives []
  m_Partition_merge : Meth K (He.ga K "Partition") "merge" (He.ma K (He.ga K "Partition") "merge")
  f_Partition_merge : ∃ fd, FunD K "merge" "Partition.merge" (defArgs s_Partition_merge) (defBody s_Partition_merge) (defScope s_Partition_merge) [] [] (He.ma K (He.ga K "Partition") "merge") fd
  m_Partition_copy_links : Meth K (He.ga K "Partition") "copy_links" (He.ma K (He.ga K "Partition") "copy_links")
  f_Partition_copy_links : ∃ fd, FunD K "copy_links" "Partition.copy_links" (defArgs s_Partition_copy_links) (defBody s_Partition_copy_links) (defScope s_Partition_copy_links) [] [] (He.ma K (He.ga K "Partition") "copy_links") fd
  m_Partition_copy_both_ways : Meth K (He.ga K "Partition") "copy_both_ways" (He.ma K (He.ga K "Partition") "copy_both_ways")
  f_Partition_copy_both_ways : ∃ fd, FunD K "copy_both_ways" "Partition.copy_both_ways" (defArgs s_Partition_copy_both_ways) (defBody s_Partition_copy_both_ways) (defScope s_Partition_copy_both_ways) [] [] (He.ma K (He.ga K "Partition") "copy_both_ways") fd
  m_Partition_are_equal : Meth K (He.ga K "Partition") "are_equal" (He.ma K (He.ga K "Partition") "are_equal")
  f_Partition_are_equal : ∃ fd, FunD K "are_equal" "Partition.are_equal" (defArgs s_Partition_are_equal) (defBody s_Partition_are_equal) (defScope s_Partition_are_equal) [] [] (He.ma K (He.ga K "Partition") "are_equal") fd
  m_Partition_distances : Meth K (He.ga K "Partition") "distances" (He.ma K (He.ga K "Partition") "distances")
  f_Partition_distances : ∃ fd, FunD K "distances" "Partition.distances" (defArgs s_Partition_distances) (defBody s_Partition_distances) (defScope s_Partition_distances) [] [] (He.ma K (He.ga K "Partition") "distances") fd
  m_Partition___init__ : Meth K (He.ga K "Partition") "__init__" (He.ma K (He.ga K "Partition") "__init__")
  f_Partition___init__ : ∃ fd, FunD K "__init__" "Partition.__init__" (defArgs s_Partition___init__) (defBody s_Partition___init__) (defScope s_Partition___init__) [] [] (He.ma K (He.ga K "Partition") "__init__") fd
  g_window_symbols : mg "window_symbols" = some (.ref (He.ga K "window_symbols"))
  f_window_symbols : FnQ K "window_symbols" "window_symbols" s_window_symbols []
  g_states_different : mg "states_different" = some (.ref (He.ga K "states_different"))
  f_states_different : FnQ K "states_different" "states_different" s_states_different []
  g_violated_pair : mg "violated_pair" = some (.ref (He.ga K "violated_pair"))
  f_violated_pair : FnQ K "violated_pair" "violated_pair" s_violated_pair []
  g_consistent_partition : mg "consistent_partition" = some (.ref (He.ga K "consistent_partition"))
  f_consistent_partition : FnQ K "consistent_partition" "consistent_partition" s_consistent_partition []
  g_is_consistent : mg "is_consistent" = some (.ref (He.ga K "is_consistent"))
  f_is_consistent : FnQ K "is_consistent" "is_consistent" s_is_consistent []
  g_finest_list : mg "finest_list" = some (.ref (He.ga K "finest_list"))
  f_finest_list : FnQ K "finest_list" "finest_list" s_finest_list []
  g_relation : mg "relation" = some (.ref (He.ga K "relation"))
  f_relation : FnQ K "relation" "relation" s_relation []
  g__law_spring : mg "_law_spring" = some (.ref (He.ga K "_law_spring"))
  f__law_spring : FnQ K "_law_spring" "_law_spring" s__law_spring []
  g__law_draw : mg "_law_draw" = some (.ref (He.ga K "_law_draw"))
  f__law_draw : FnQ K "_law_draw" "_law_draw" s__law_draw []
  g__law_same : mg "_law_same" = some (.ref (He.ga K "_law_same"))
  f__law_same : FnQ K "_law_same" "_law_same" s__law_same []
  g__law_symbols : mg "_law_symbols" = some (.ref (He.ga K "_law_symbols"))
  f__law_symbols : FnQ K "_law_symbols" "_law_symbols" s__law_symbols []
  g__law_distances : mg "_law_distances" = some (.ref (He.ga K "_law_distances"))
  f__law_distances : FnQ K "_law_distances" "_law_distances" s__law_distances []
  g__law_window : mg "_law_window" = some (.ref (He.ga K "_law_window"))
  f__law_window : FnQ K "_law_window" "_law_window" s__law_window []
  g__law_fact : mg "_law_fact" = some (.ref (He.ga K "_law_fact"))
  f__law_fact : FnQ K "_law_fact" "_law_fact" s__law_fact []
  g__law_facts : mg "_law_facts" = some (.ref (He.ga K "_law_facts"))
  f__law_facts : FnQ K "_law_facts" "_law_facts" s__law_facts []
  g__law_holds : mg "_law_holds" = some (.ref (He.ga K "_law_holds"))
  f__law_holds : FnQ K "_law_holds" "_law_holds" s__law_holds []
  g__law_dressed_facts : mg "_law_dressed_facts" = some (.ref (He.ga K "_law_dressed_facts"))
  f__law_dressed_facts : FnQ K "_law_dressed_facts" "_law_dressed_facts" s__law_dressed_facts []
  g__law_closure : mg "_law_closure" = some (.ref (He.ga K "_law_closure"))
  f__law_closure : FnQ K "_law_closure" "_law_closure" s__law_closure []
  g__law_finest : mg "_law_finest" = some (.ref (He.ga K "_law_finest"))
  f__law_finest : FnQ K "_law_finest" "_law_finest" s__law_finest []
  g__law_relation : mg "_law_relation" = some (.ref (He.ga K "_law_relation"))
  f__law_relation : FnQ K "_law_relation" "_law_relation" s__law_relation []
  g__law_asked : mg "_law_asked" = some (.ref (He.ga K "_law_asked"))
  f__law_asked : FnQ K "_law_asked" "_law_asked" s__law_asked []
  g_law : mg "law" = some (.ref (He.ga K "law"))
  f_law : FnQ K "law" "law" s_law []
  g_Partition : mg "Partition" = some (.ref (He.ga K "Partition"))
  o_Partition : ClT K "Partition"
  k_Partition : Mk K (He.ga K "Partition") (He.ma K (He.ga K "Partition") "__init__")
  n_Partition_leaders : NoAttr K (He.ga K "Partition") "leaders"
  z_abs : mg "abs" = none
  z_all : mg "all" = none
  z_any : mg "any" = none
  z_bool : mg "bool" = none
  z_enumerate : mg "enumerate" = none
  z_int : mg "int" = none
  z_isinstance : mg "isinstance" = none
  z_len : mg "len" = none
  z_list : mg "list" = none
  z_max : mg "max" = none
  z_min : mg "min" = none
  z_range : mg "range" = none
  z_set : mg "set" = none
  z_sorted : mg "sorted" = none
  z_str : mg "str" = none
  z_tuple : mg "tuple" = none
  c_DIFFERENT : ∃ t, mg "DIFFERENT" = some (.str (Str.ofString "different") t)
  c_EQUIVALENT : ∃ t, mg "EQUIVALENT" = some (.str (Str.ofString "equivalent") t)
  c_MAX_FACTS : ∃ t, mg "MAX_FACTS" = some (.int 40 t)
  c_MAX_POSITIONS : ∃ t, mg "MAX_POSITIONS" = some (.int 400 t)
  c_MAX_SIZE : ∃ t, mg "MAX_SIZE" = some (.int 60 t)
  c_SAME : ∃ t, mg "SAME" = some (.str (Str.ofString "same") t)
  c_UNKNOWN : ∃ t, mg "UNKNOWN" = some (.str (Str.ofString "unknown") t)
  c_WINDOW : ∃ t, mg "WINDOW" = some (.str (Str.ofString "window") t)
  e_Inconsistent : ExC K mg "Inconsistent"
  e_InvalidFacts : ExC K mg "InvalidFacts"
  e_InvalidNumber : ExC K mg "InvalidNumber"
  e_InvalidPosition : ExC K mg "InvalidPosition"
  xw : ExcW K mg exN exY

/-! ### is_integer_distances -/
def sp_is_integer_distances : Spq := fun as k _ => ∃ d lo hi, as = [.bor d, .bor (.int lo), .bor hi] ∧ hiOk hi = true ∧ k (.sh (.bl (intIn lo hi d)))
theorem e_is_integer_distances {d : D} {lo hi : Int} {k : Rv → Prop} {x : Str → List D → Prop} : sp_is_integer_distances [.bor d, .bor (.int lo), .bor (.int hi)] k x = k (.sh (.bl (intIn lo (.int hi) d))) := propext ⟨fun ⟨_, _, _, h, _, q⟩ => (by cases h; exact q), fun q => ⟨_, _, _, rfl, rfl, q⟩⟩
theorem e_is_integer_distancesN {d : D} {lo : Int} {k : Rv → Prop} {x : Str → List D → Prop} : sp_is_integer_distances [.bor d, .bor (.int lo), .bor .non] k x = k (.sh (.bl (intIn lo .non d))) := propext ⟨fun ⟨_, _, _, h, _, q⟩ => (by cases h; exact q), fun q => ⟨_, _, _, rfl, rfl, q⟩⟩
section
variable {P : Program} {w : World} {K : Fg} {mg : Str → Option Value} {base : Heap} {g : Gd}
theorem sc_is_integer_distances : FnScope ["value", "lowest", "highest"] ["value", "lowest", "highest"] (defScope s_is_integer_distances) := ⟨rfl, rfl, rfl, by decide +kernel, rfl, by decide +kernel, by decide +kernel⟩
theorem fn_is_integer_distances (T : Tx K mg) : ∃ fd, FnG P w K mg base 1 (He.ga K "is_integer_distances") fd ["value", "lowest", "highest"] (spQ K mg g sp_is_integer_distances) ∧ FunD K "is_integer" "is_integer" (defArgs s_is_integer_distances) (defBody s_is_integer_distances) (defScope s_is_integer_distances) [.non] [] (He.ga K "is_integer_distances") fd := by
  have sc := sc_is_integer_distances
  obtain ⟨fd, Fn⟩ := T.f_is_integer_distances
  refine ⟨fd, fn_q g Fn sc (by decide) (fun as k x h => ?_) fun cdv A outer s H E hgd hr => ?_, Fn⟩
  · unfold sp_is_integer_distances at h; first | (split at h <;> first | rfl | exact h.elim) | (obtain ⟨_, rfl, _⟩ := h; rfl) | (obtain ⟨_, _, rfl, _⟩ := h; rfl) | (obtain ⟨_, _, _, rfl, _⟩ := h; rfl) | (obtain ⟨_, _, _, _, rfl, _⟩ := h; rfl) | (obtain ⟨_, _, _, _, _, rfl, _⟩ := h; rfl) | (obtain ⟨_, _, _, _, _, _, rfl, _⟩ := h; rfl)
  · have tk : Takes (cxOf (L2.CX P w) P w K mg base ["value", "lowest", "highest"] "is_integer" (defScope s_is_integer_distances) (He.ga K "is_integer_distances") cdv A outer s H E) (fun cls d _ H => E cls d H) := takes_of rfl rfl rfl rfl
    refine ⟨_, _, (qs_cons (qs_if (QW.toT (qw_or (qt_not (qt_val (q_isi (T := "int") (by exact rfl) T.z_isinstance (by exact rfl) T.z_int (by decide +kernel) (by exact rfl) (q_var 0) (by decide) (by decide) (by rfl)) (by intro _; rfl))) (qw_or1 (qt_val (q_isi (T := "bool") (by exact rfl) T.z_isinstance (by exact rfl) T.z_bool (by decide +kernel) (by exact rfl) (q_var 0) (by decide) (by decide) (by rfl)) (by intro _; rfl))))) (qs_one (qs_ret q_bl)) qs_nil)
      (qs_one (qs_ret (q_and (q_cmp op_ge o_ge (q_var 0) (q_var 1) (by first | exact nomark _ | rfl)) (q_one (q_or (q_cmp op_isN o_is (q_var 2) q_non (by first | exact nomark _ | rfl)) (q_one (q_cmp op_le o_le (q_var 0) (q_var 2) (by first | exact nomark _ | rfl))))))))), fun as k x h => ?_⟩
    clear tk hr hgd Fn sc T
    obtain ⟨d, lo, hi, rfl, hh, hk⟩ := h
    replace hh : hi = .non ∨ ∃ h, hi = .int h := by
      cases hi <;> first | exact .inl rfl | exact .inr ⟨_, rfl⟩ | cases hh
    cases d
    case int i =>
      rcases hh with rfl | ⟨hh, rfl⟩
      · walk_at "q"
        refine cIf_i (fun h1 => ?_) (fun h1 => ?_)
        · walk_at "q"
          rw [show intIn lo .non (.int i) = true by simp [intIn, leO, h1]] at hk
          exact hk
        · walk_at "q"
          rw [show intIn lo .non (.int i) = false by simp [intIn, h1]] at hk
          exact hk
      · walk_at "q"
        refine cIf_i (fun h1 => ?_) (fun h1 => ?_)
        · walk_at "q"
          rw [show intIn lo (.int hh) (.int i) = decide (i ≤ hh) by simp [intIn, leO, h1]] at hk
          exact hk
        · walk_at "q"
          rw [show intIn lo (.int hh) (.int i) = false by simp [intIn, h1]] at hk
          exact hk
    all_goals walk_at "q"
    all_goals exact hk
theorem cal_is_integer_distances (T : Tx K mg) : Cal P w K mg base g 1 "is_integer_distances" [] sp_is_integer_distances := by
  obtain ⟨fd, G, Fn⟩ := fn_is_integer_distances (P := P) (w := w) (base := base) (g := g) T
  obtain ⟨ds, hv, hb⟩ := Fn.binds1 (ps := ["value", "lowest", "highest"]) 3 1 (by decide) rfl fun _ _ _ _ _ _ _ us its h1 h2 => match us, its, h1, h2 with | [_, _, _], [_], _, _ => ⟨_, rfl, rfl⟩
  cases hv
  exact ⟨_, fd, _, [], G, T.g_is_integer_distances, Fn.kp, hb, .nil, rfl⟩
end

local macro_rules | `(tactic| walk_at "p") => `(tactic| (repeat (rw [pkV]; try walk_at "q")))
local macro_rules | `(tactic| walk_at "len") => `(tactic| (first | omega | (simp only [List.length_map, List.length_append, List.length_reverse, List.length_take, List.length_drop, List.length_dropLast, List.length_cons, List.length_nil, List.length_set, List.length_replicate, dist_length, nxt_length, idsD_length, numbered_length, ranged_length, upto_length]; omega)))
local macro_rules | `(tactic| walk_at "q") => `(tactic| (try simp only [↓hold1, ↓hold2, ↓cIf_t, ↓cIf_f, ↓lk0, ↓lk1, ↓st0, ↓st1, ↓wp0, ↓wp1, ↓wpm, ↓wpn, ↓sD_sh, ↓sD_own, ↓sD_bor, ↓rd_d, ↓rd_p, ↓dB_b, ↓dI_i, ↓dX_x, ↓dK_i, ↓dK_s, ↓dL_l, ↓dIt_l, ↓dIt_t, ↓dIt_s, ↓shS_sh, ↓shS_own, ↓shS_bor, ↓sh1_d, ↓sh1_p, ↓shs0, ↓shs1, ↓ress0, ↓ress1, ↓bagS_b, ↓arg_bor, ↓arg_sh, ↓arg_bag, ↓args0, ↓args1, ↓ap0, ↓ap0', ↓ap1, ↓reS_sh, ↓reS_own, ↓reS_bor, ↓ret_d, ↓ret_p, ↓asS_sh, ↓asS_own, ↓asS_bor, ↓as_d, ↓as_p, ↓rv_sh, ↓rv_own, ↓da_sh, ↓da_own, ↓itS_sh, ↓itS_own, ↓itS_bor, ↓it_d, ↓it_p, ↓e_var, ↓e_sh, ↓e_own, ↓e_bor, ↓e_bag, ↓e_c, ↓e_op, ↓e_opR, ↓e_test, ↓e_and, ↓e_or, ↓e_not, ↓e_andV, ↓e_orV, ↓e_notV, ↓e_ifE, ↓e_nil, ↓e_cons, ↓e_cb, ↓e_cbR, ↓e_ofN, ↓e_lst, ↓e_tup, ↓e_call, ↓e_callS, ↓e_next, ↓e_seq, ↓e_drop, ↓e_ret, ↓e_retN, ↓e_if, ↓e_set, ↓e_setN, ↓e_raise, ↓e_name, ↓e_gnil, ↓e_gcons, ↓e_gtup, ↓e_for, ↓e_seqI, ↓e_enum, ↓rg1_i, ↓rg2_i, ↓e_rng1, ↓e_rng2, ↓e_lc, ↓e_yes, ↓e_onone, ↓e_osome, ↓e_sl, ↓e_isi, ↓e_isi2, ↓ownL_l, ↓ownA_l, ↓sO_o, ↓e_meth, ↓e_dnew, ↓e_dput, ↓e_lput, ↓e_lenSet, ↓e_chain, ↓e_asgT, ↓e_toN, ↓e_parN, ↓e_getD, ↓f_inC, ↓f_inI, ↓f_inIT, ↓f_inS, ↓pkC0, ↓pkC_sh, ↓pkC_own, ↓pkC_bor, ↓pkC_bag, ↓pkC_no, ↓f_ix0, ↓f_ix1, ↓f_ix2, ↓f_ix3, ↓f_ix4, ↓f_ixT0, ↓f_ixT1, ↓f_ixT2, ↓f_ixT3, ↓f_ixT4, ↓e_loopC, ↓e_loopN, ↓e_step, ↓e_exI, ↓e_toI, ↓f_eqW1, ↓f_eqW2, ↓f_eqW3, ↓f_sortI, ↓f_eqNN, ↓f_notScrL, ↓f_notScrT, ↓f_eqSL, ↓f_neSL, ↓f_eqSNil, ↓f_neSNil, ↓f_neNN, ↓e_lstRg1, ↓e_ifN, ↓e_ixl0, ↓e_ixl1, ↓e_ixl2, ↓e_ixl3, ↓e_ixt0, ↓e_ixt1, ↓e_ixt2, ↓e_ixt3, ↓f_inT2S, ↓f_eqNl, ↓e_isEx, ↓f_nonE, ↓f_empC, ↓f_empN, ↓e_dObj, ↓e_lkHit, ↓e_pfHit, ↓e_pfNil, ↓e_fld, ↓e_fput, ↓e_startM, ↓e_mnx, ↓e_mrt, ↓e_mex, ↓e_npN, ↓e_npD, ↓e_npB, ↓e_npP, ↓e_callM, ↓e_callR, ↓e_make, ↓e_ty_int_T, ↓e_ty_int_O, ↓e_ty_bool_T, ↓e_ty_bool_O, ↓e_ty_str_T, ↓e_ty_str_O, ↓e_ty_list_T, ↓e_ty_list_O, ↓e_ty_tuple_T, ↓e_ty_tuple_O, ↓e_ty_dict_T, ↓e_ty_dict_O, ↓e_gunl, ↓f_sortITl, ↓f_sortITt, ↓e_tryC, ↓f_sub, ↓f_mod, ↓f_div, ↓f_divW, ↓f_pow, ↓f_lt, ↓f_le, ↓f_gt, ↓f_ge, ↓f_addI, ↓f_addS, ↓f_addL, ↓f_mulI, ↓f_mulL, ↓f_eqI, ↓f_neI, ↓f_eqS, ↓f_neS, ↓f_eqB, ↓f_neB, ↓f_isN, ↓f_isNotN, ↓f_lenL, ↓f_lenT, ↓f_lenR, ↓f_lenS, ↓f_min, ↓f_max, ↓f_abs, ↓f_intI, ↓f_intB, ↓f_listL, ↓f_listT, ↓f_listS, ↓f_tupL, ↓f_slL, ↓f_slR, ↓f_slT, ↓f_app, ↓f_ext, ↓f_allM, ↓f_anyM, ↓f_eqIL, ↓f_neIL, ↓f_eqIT, ↓f_neIT, ↓f_eqNil, ↓f_neNil, ↓e_is_integer_distances, ↓e_is_integer_distancesN, ty_int_n, ty_int_b, ty_int_i, ty_int_s, ty_int_l, ty_int_t, ty_int_r, ty_int_d, ty_int_e, ty_bool_n, ty_bool_b, ty_bool_i, ty_bool_s, ty_bool_l, ty_bool_t, ty_bool_r, ty_bool_d, ty_bool_e, ty_str_n, ty_str_b, ty_str_i, ty_str_s, ty_str_l, ty_str_t, ty_str_r, ty_str_d, ty_str_e, ty_list_n, ty_list_b, ty_list_i, ty_list_s, ty_list_l, ty_list_t, ty_list_r, ty_list_d, ty_list_e, ty_tuple_n, ty_tuple_b, ty_tuple_i, ty_tuple_s, ty_tuple_l, ty_tuple_t, ty_tuple_r, ty_tuple_d, ty_tuple_e, ty_dict_n, ty_dict_b, ty_dict_i, ty_dict_s, ty_dict_l, ty_dict_t, ty_dict_r, ty_dict_d, ty_dict_e, cIf_t, cIf_f, cIf_n, isSc_n, isSc_b, isSc_i, isSc_s, ex_some, Int.reduceLT, Int.reduceLE, Int.reduceGT, Int.reduceGE, Int.reduceEq, Int.reduceNe, Int.reduceAdd, Int.reduceSub, Int.reduceMul, Int.reduceNeg, Int.reduceToNat, Int.reducePow, Nat.reduceLT, Nat.reduceAdd, Nat.reduceSub, Nat.reduceLeDiff, Nat.reduceEqDiff, Nat.reduceMul, Int.cast_ofNat_Int, true_or, true_and, and_true, List.length_cons, List.length_nil, List.length_map, n_n, n_b, n_i, n_s, n_l, n_t, se_c, se_n, se_0, ar_b, ar_s, ar_g, Bool.or_true, Bool.true_or, Bool.or_false, Bool.false_or, Bool.and_true, Bool.true_and, Bool.and_false, Bool.false_and, Bool.not_true, Bool.not_false, Bool.not_not, decide_true, decide_false, int_app, filter_tt, eq_self, Option.map_some, Option.map_none, Option.isSome_some, Option.isSome_none, Bool.false_eq_true, if_false, if_true, Nat.zero_add, Int.zero_add, Int.add_zero, Int.sub_zero, List.map_nil, List.nil_append, List.append_nil, int_rev, int_take, int_drop, int_dropLast, int_appL, e_toI, e_is_integer_distances, e_is_integer_distancesN]))

/-! ### is_sequence_distances -/
def sp_is_sequence_distances : Spq := fun as k _ => ∃ d, as = [.bor d] ∧ k (.sh (.bl (isSeq d)))
theorem e_is_sequence_distances {d : D} {k : Rv → Prop} {x : Str → List D → Prop} : sp_is_sequence_distances [.bor d] k x = k (.sh (.bl (isSeq d))) := propext ⟨fun ⟨_, h, q⟩ => (by cases h; exact q), fun q => ⟨_, rfl, q⟩⟩
section
variable {P : Program} {w : World} {K : Fg} {mg : Str → Option Value} {base : Heap} {g : Gd}
theorem sc_is_sequence_distances : FnScope ["value"] ["value"] (defScope s_is_sequence_distances) := ⟨rfl, rfl, rfl, by decide +kernel, rfl, by decide +kernel, by decide +kernel⟩
theorem fn_is_sequence_distances (T : Tx K mg) : ∃ fd, FnG P w K mg base 1 (He.ga K "is_sequence_distances") fd ["value"] (spQ K mg g sp_is_sequence_distances) ∧ FunD K "is_sequence" "is_sequence" (defArgs s_is_sequence_distances) (defBody s_is_sequence_distances) (defScope s_is_sequence_distances) [] [] (He.ga K "is_sequence_distances") fd := by
  have sc := sc_is_sequence_distances
  obtain ⟨fd, Fn⟩ := T.f_is_sequence_distances
  refine ⟨fd, fn_q g Fn sc (by decide) (fun as k x h => ?_) fun cdv A outer s H E hgd hr => ?_, Fn⟩
  · unfold sp_is_sequence_distances at h; first | (split at h <;> first | rfl | exact h.elim) | (obtain ⟨_, rfl, _⟩ := h; rfl) | (obtain ⟨_, _, rfl, _⟩ := h; rfl) | (obtain ⟨_, _, _, rfl, _⟩ := h; rfl) | (obtain ⟨_, _, _, _, rfl, _⟩ := h; rfl) | (obtain ⟨_, _, _, _, _, rfl, _⟩ := h; rfl) | (obtain ⟨_, _, _, _, _, _, rfl, _⟩ := h; rfl)
  · have tk : Takes (cxOf (L2.CX P w) P w K mg base ["value"] "is_sequence" (defScope s_is_sequence_distances) (He.ga K "is_sequence_distances") cdv A outer s H E) (fun cls d _ H => E cls d H) := takes_of rfl rfl rfl rfl
    refine ⟨_, _, (qs_one (qs_ret (q_isi2 (T := "list") (U := "tuple") (by exact rfl) T.z_isinstance (by exact rfl) T.z_list (by decide +kernel) (by exact rfl) (by exact rfl) T.z_tuple (by decide +kernel) (by exact rfl) (q_var 0) (by decide) (by decide) (by decide) (by decide) (by rfl)))), fun as k x h => ?_⟩
    clear tk hr hgd Fn sc T
    obtain ⟨d, rfl, h⟩ := h
    walk_at "q"
    exact h
theorem cal_is_sequence_distances (T : Tx K mg) : Cal P w K mg base g 1 "is_sequence_distances" [] sp_is_sequence_distances := by
  obtain ⟨fd, G, Fn⟩ := fn_is_sequence_distances (P := P) (w := w) (base := base) (g := g) T
  exact ⟨_, fd, _, [], G, T.g_is_sequence_distances, Fn.kp, Fn.bindsN fun _ _ _ _ _ _ us hl => match us, hl with | [_], _ => rfl, .nil, rfl⟩
end

local macro_rules | `(tactic| walk_at "p") => `(tactic| (repeat (rw [pkV]; try walk_at "q")))
local macro_rules | `(tactic| walk_at "len") => `(tactic| (first | omega | (simp only [List.length_map, List.length_append, List.length_reverse, List.length_take, List.length_drop, List.length_dropLast, List.length_cons, List.length_nil, List.length_set, List.length_replicate, dist_length, nxt_length, idsD_length, numbered_length, ranged_length, upto_length]; omega)))
local macro_rules | `(tactic| walk_at "q") => `(tactic| (try simp only [↓hold1, ↓hold2, ↓cIf_t, ↓cIf_f, ↓lk0, ↓lk1, ↓st0, ↓st1, ↓wp0, ↓wp1, ↓wpm, ↓wpn, ↓sD_sh, ↓sD_own, ↓sD_bor, ↓rd_d, ↓rd_p, ↓dB_b, ↓dI_i, ↓dX_x, ↓dK_i, ↓dK_s, ↓dL_l, ↓dIt_l, ↓dIt_t, ↓dIt_s, ↓shS_sh, ↓shS_own, ↓shS_bor, ↓sh1_d, ↓sh1_p, ↓shs0, ↓shs1, ↓ress0, ↓ress1, ↓bagS_b, ↓arg_bor, ↓arg_sh, ↓arg_bag, ↓args0, ↓args1, ↓ap0, ↓ap0', ↓ap1, ↓reS_sh, ↓reS_own, ↓reS_bor, ↓ret_d, ↓ret_p, ↓asS_sh, ↓asS_own, ↓asS_bor, ↓as_d, ↓as_p, ↓rv_sh, ↓rv_own, ↓da_sh, ↓da_own, ↓itS_sh, ↓itS_own, ↓itS_bor, ↓it_d, ↓it_p, ↓e_var, ↓e_sh, ↓e_own, ↓e_bor, ↓e_bag, ↓e_c, ↓e_op, ↓e_opR, ↓e_test, ↓e_and, ↓e_or, ↓e_not, ↓e_andV, ↓e_orV, ↓e_notV, ↓e_ifE, ↓e_nil, ↓e_cons, ↓e_cb, ↓e_cbR, ↓e_ofN, ↓e_lst, ↓e_tup, ↓e_call, ↓e_callS, ↓e_next, ↓e_seq, ↓e_drop, ↓e_ret, ↓e_retN, ↓e_if, ↓e_set, ↓e_setN, ↓e_raise, ↓e_name, ↓e_gnil, ↓e_gcons, ↓e_gtup, ↓e_for, ↓e_seqI, ↓e_enum, ↓rg1_i, ↓rg2_i, ↓e_rng1, ↓e_rng2, ↓e_lc, ↓e_yes, ↓e_onone, ↓e_osome, ↓e_sl, ↓e_isi, ↓e_isi2, ↓ownL_l, ↓ownA_l, ↓sO_o, ↓e_meth, ↓e_dnew, ↓e_dput, ↓e_lput, ↓e_lenSet, ↓e_chain, ↓e_asgT, ↓e_toN, ↓e_parN, ↓e_getD, ↓f_inC, ↓f_inI, ↓f_inIT, ↓f_inS, ↓pkC0, ↓pkC_sh, ↓pkC_own, ↓pkC_bor, ↓pkC_bag, ↓pkC_no, ↓f_ix0, ↓f_ix1, ↓f_ix2, ↓f_ix3, ↓f_ix4, ↓f_ixT0, ↓f_ixT1, ↓f_ixT2, ↓f_ixT3, ↓f_ixT4, ↓e_loopC, ↓e_loopN, ↓e_step, ↓e_exI, ↓e_toI, ↓f_eqW1, ↓f_eqW2, ↓f_eqW3, ↓f_sortI, ↓f_eqNN, ↓f_notScrL, ↓f_notScrT, ↓f_eqSL, ↓f_neSL, ↓f_eqSNil, ↓f_neSNil, ↓f_neNN, ↓e_lstRg1, ↓e_ifN, ↓e_ixl0, ↓e_ixl1, ↓e_ixl2, ↓e_ixl3, ↓e_ixt0, ↓e_ixt1, ↓e_ixt2, ↓e_ixt3, ↓f_inT2S, ↓f_eqNl, ↓e_isEx, ↓f_nonE, ↓f_empC, ↓f_empN, ↓e_dObj, ↓e_lkHit, ↓e_pfHit, ↓e_pfNil, ↓e_fld, ↓e_fput, ↓e_startM, ↓e_mnx, ↓e_mrt, ↓e_mex, ↓e_npN, ↓e_npD, ↓e_npB, ↓e_npP, ↓e_callM, ↓e_callR, ↓e_make, ↓e_ty_int_T, ↓e_ty_int_O, ↓e_ty_bool_T, ↓e_ty_bool_O, ↓e_ty_str_T, ↓e_ty_str_O, ↓e_ty_list_T, ↓e_ty_list_O, ↓e_ty_tuple_T, ↓e_ty_tuple_O, ↓e_ty_dict_T, ↓e_ty_dict_O, ↓e_gunl, ↓f_sortITl, ↓f_sortITt, ↓e_tryC, ↓f_sub, ↓f_mod, ↓f_div, ↓f_divW, ↓f_pow, ↓f_lt, ↓f_le, ↓f_gt, ↓f_ge, ↓f_addI, ↓f_addS, ↓f_addL, ↓f_mulI, ↓f_mulL, ↓f_eqI, ↓f_neI, ↓f_eqS, ↓f_neS, ↓f_eqB, ↓f_neB, ↓f_isN, ↓f_isNotN, ↓f_lenL, ↓f_lenT, ↓f_lenR, ↓f_lenS, ↓f_min, ↓f_max, ↓f_abs, ↓f_intI, ↓f_intB, ↓f_listL, ↓f_listT, ↓f_listS, ↓f_tupL, ↓f_slL, ↓f_slR, ↓f_slT, ↓f_app, ↓f_ext, ↓f_allM, ↓f_anyM, ↓f_eqIL, ↓f_neIL, ↓f_eqIT, ↓f_neIT, ↓f_eqNil, ↓f_neNil, ↓e_is_integer_distances, ↓e_is_integer_distancesN, ↓e_is_sequence_distances, ty_int_n, ty_int_b, ty_int_i, ty_int_s, ty_int_l, ty_int_t, ty_int_r, ty_int_d, ty_int_e, ty_bool_n, ty_bool_b, ty_bool_i, ty_bool_s, ty_bool_l, ty_bool_t, ty_bool_r, ty_bool_d, ty_bool_e, ty_str_n, ty_str_b, ty_str_i, ty_str_s, ty_str_l, ty_str_t, ty_str_r, ty_str_d, ty_str_e, ty_list_n, ty_list_b, ty_list_i, ty_list_s, ty_list_l, ty_list_t, ty_list_r, ty_list_d, ty_list_e, ty_tuple_n, ty_tuple_b, ty_tuple_i, ty_tuple_s, ty_tuple_l, ty_tuple_t, ty_tuple_r, ty_tuple_d, ty_tuple_e, ty_dict_n, ty_dict_b, ty_dict_i, ty_dict_s, ty_dict_l, ty_dict_t, ty_dict_r, ty_dict_d, ty_dict_e, cIf_t, cIf_f, cIf_n, isSc_n, isSc_b, isSc_i, isSc_s, ex_some, Int.reduceLT, Int.reduceLE, Int.reduceGT, Int.reduceGE, Int.reduceEq, Int.reduceNe, Int.reduceAdd, Int.reduceSub, Int.reduceMul, Int.reduceNeg, Int.reduceToNat, Int.reducePow, Nat.reduceLT, Nat.reduceAdd, Nat.reduceSub, Nat.reduceLeDiff, Nat.reduceEqDiff, Nat.reduceMul, Int.cast_ofNat_Int, true_or, true_and, and_true, List.length_cons, List.length_nil, List.length_map, n_n, n_b, n_i, n_s, n_l, n_t, se_c, se_n, se_0, ar_b, ar_s, ar_g, Bool.or_true, Bool.true_or, Bool.or_false, Bool.false_or, Bool.and_true, Bool.true_and, Bool.and_false, Bool.false_and, Bool.not_true, Bool.not_false, Bool.not_not, decide_true, decide_false, int_app, filter_tt, eq_self, Option.map_some, Option.map_none, Option.isSome_some, Option.isSome_none, Bool.false_eq_true, if_false, if_true, Nat.zero_add, Int.zero_add, Int.add_zero, Int.sub_zero, List.map_nil, List.nil_append, List.append_nil, int_rev, int_take, int_drop, int_dropLast, int_appL, e_toI, e_is_integer_distances, e_is_integer_distancesN, e_is_sequence_distances]))

/-! ### is_distances -/
def sp_is_distances : Spq := fun as k _ => ∃ d, as = [.bor d] ∧ k (.sh (.bl (isDist d)))
theorem e_is_distances {d : D} {k : Rv → Prop} {x : Str → List D → Prop} : sp_is_distances [.bor d] k x = k (.sh (.bl (isDist d))) := propext ⟨fun ⟨_, h, q⟩ => (by cases h; exact q), fun q => ⟨_, rfl, q⟩⟩
section
variable {P : Program} {w : World} {K : Fg} {mg : Str → Option Value} {base : Heap} {g : Gd}
theorem sc_is_distances : FnScope ["value", "targets", "position", "entry"] ["value"] (defScope s_is_distances) := ⟨rfl, rfl, rfl, by decide +kernel, rfl, by decide +kernel, by decide +kernel⟩
theorem fn_is_distances (T : Tx K mg) : ∃ fd, FnG P w K mg base 2 (He.ga K "is_distances") fd ["value"] (spQ K mg g sp_is_distances) ∧ FunD K "is_distances" "is_distances" (defArgs s_is_distances) (defBody s_is_distances) (defScope s_is_distances) [] [] (He.ga K "is_distances") fd := by
  have sc := sc_is_distances
  have C_is_integer_distances : Cal P w K mg base g 1 "is_integer_distances" [] sp_is_integer_distances := cal_is_integer_distances T
  have C_is_sequence_distances : Cal P w K mg base g 1 "is_sequence_distances" [] sp_is_sequence_distances := cal_is_sequence_distances T
  obtain ⟨t_MAX_POSITIONS, h_MAX_POSITIONS⟩ := T.c_MAX_POSITIONS
  obtain ⟨fd, Fn⟩ := T.f_is_distances
  refine ⟨fd, fn_q g Fn sc (by decide) (fun as k x h => ?_) fun cdv A outer s H E hgd hr => ?_, Fn⟩
  · unfold sp_is_distances at h; first | (split at h <;> first | rfl | exact h.elim) | (obtain ⟨_, rfl, _⟩ := h; rfl) | (obtain ⟨_, _, rfl, _⟩ := h; rfl) | (obtain ⟨_, _, _, rfl, _⟩ := h; rfl) | (obtain ⟨_, _, _, _, rfl, _⟩ := h; rfl) | (obtain ⟨_, _, _, _, _, rfl, _⟩ := h; rfl) | (obtain ⟨_, _, _, _, _, _, rfl, _⟩ := h; rfl)
  · have tk : Takes (cxOf (L2.CX P w) P w K mg base ["value", "targets", "position", "entry"] "is_distances" (defScope s_is_distances) (He.ga K "is_distances") cdv A outer s H E) (fun cls d _ H => E cls d H) := takes_of rfl rfl rfl rfl
    refine ⟨_, _, (qs_cons (qs_if (QW.toT (qw_or (qt_not (qt_val (QN.qe (qn_call [.bor] C_is_sequence_distances (by exact hgd) (by exact hr) (by omega) (by exact rfl) (qa_cons (q_var 0) qa_nil (by rfl)) (by decide) (by rfl) (by rfl))) (by intro _; rfl))) (qw_or1 (qt_cmp op_gt o_gt (q_callB call_len c_len (by exact rfl) T.z_len (by decide +kernel) (qa_cons (q_var 0) qa_nil (by rfl)) (by decide) (by decide) (by rfl) (by rfl)) (q_glob (v := V.int 400) (d := D.int 400) (by exact rfl) h_MAX_POSITIONS ⟨_, rfl⟩ (by exact rfl) (by decide)) (by first | exact nomark _ | rfl))))) (qs_one (qs_ret q_bl)) qs_nil)
      (qs_cons (qs_if (qt_not (qt_val (q_callB (cr_all rfl) c_all (by exact rfl) T.z_all (by decide +kernel) (qa_cons (QN.qe (qn_lcB [("position", 2), ("entry", 3)] (by exact rfl) (by exact sc.nd) (qi_enum (by exact rfl) T.z_enumerate (q_var 0) (by rfl)) (blkOk_by (by kernel_rfl)) (fun _ _ _ _ _ => (qg_tup (n := 2) (by exact rfl) (qgs_cons (qg_name (i := 2) (by exact sc.nd) (by exact rfl) (by first | exact Or.inl rfl | exact Or.inr rfl) (by decide) (by first | exact .inl rfl | exact .inr rfl | assumption)) (qgs_cons (qg_name (i := 3) (by exact sc.nd) (by exact rfl) (by first | exact Or.inl rfl | exact Or.inr rfl) (by decide) (by first | exact .inl rfl | exact .inr rfl | assumption)) qgs_nil (by rfl)) (by rfl)) (by rfl) (by rfl))) (fun _ _ _ _ _ => qts_nil) (fun _ _ _ _ _ => (QN.qe (qn_call [.bor, .bor, .bor] C_is_integer_distances (by exact hgd) (by exact hr) (by omega) (by exact rfl) (qa_cons (q_var 3) (qa_cons q_int (qa_cons (q_var 2) qa_nil (by rfl)) (by rfl)) (by rfl)) (by decide) (by rfl) (by rfl)))) (by intro _; rfl) (by intros; rfl) (by intros; rfl) (by intros; rfl))) qa_nil (by rfl)) (by decide) (by decide) (by rfl) (by rfl)) (by intro _; rfl))) (qs_one (qs_ret q_bl)) qs_nil)
      (qs_cons (qs_setLcB (i := 1) [("position", 2), ("entry", 3)] (by exact rfl) (by exact sc.nd) (by exact rfl) (by exact rfl) (sw_true (by exact rfl) (by exact rfl) (by exact rfl) (by decide +kernel)) (qi_enum (by exact rfl) T.z_enumerate (q_var 0) (by rfl)) (blkOk_by (by kernel_rfl)) (fun _ _ _ _ _ => (qg_tup (n := 2) (by exact rfl) (qgs_cons (qg_name (i := 2) (by exact sc.nd) (by exact rfl) (by first | exact Or.inl rfl | exact Or.inr rfl) (by decide) (by first | exact .inl rfl | exact .inr rfl | assumption)) (qgs_cons (qg_name (i := 3) (by exact sc.nd) (by exact rfl) (by first | exact Or.inl rfl | exact Or.inr rfl) (by decide) (by first | exact .inl rfl | exact .inr rfl | assumption)) qgs_nil (by rfl)) (by rfl)) (by rfl) (by rfl))) (fun _ _ _ _ _ => (qts_one (qt_cmp op_gt o_gt (q_var 3) q_int (by first | exact nomark _ | rfl)))) (fun _ _ _ _ _ => (q_op op_sub o_sub (q_var 2) (q_var 3))) (by intro _; rfl) (by intros; rfl) (by intros; rfl) (by intros; rfl))
      (qs_one (qs_ret (q_cmp (or_eqQ (by exact hr.units)) o_eq (q_lenSet (by exact rfl) T.z_len (by exact rfl) T.z_set (q_var 1) (by rfl) (by rfl)) (q_callB call_len c_len (by exact rfl) T.z_len (by decide +kernel) (qa_cons (q_var 1) qa_nil (by rfl)) (by decide) (by decide) (by rfl) (by rfl)) (by first | exact nomark _ | rfl))))))), fun as k x h => ?_⟩
    clear tk hr hgd Fn sc T
    obtain ⟨d, rfl, h⟩ := h
    walk_at "q"
    refine cIf_b (fun h1 => ?_) (fun h1 => ?_)
    rotate_left
    · walk_at "q"
      rw [show isDist d = false by cases d <;> first | rfl | (cases h1; done)] at h
      exact h
    cases d
    all_goals first | (cases h1; done) | skip
    · walk_at "q"
      simp only [isDist] at h
      refine cIf_i (fun h2 => ?_) (fun h2 => ?_)
      · walk_at "q"
        rw [distB_long (by first | omega | (rw [List.length_map]; omega))] at h
        exact h
      walk_at "q"
      refine comp_pure (fun _ => true) (fun d => .bl (prB (fun p e => intIn 0 (.int p) e) d)) (fun n d acc X hd hl hX => ?_) ?_
      · obtain ⟨e, he, rfl⟩ := num_get hd
        have hn := (List.getElem?_eq_some_iff.mp hd).1
        rw [numbered_length] at hn
        rw [if_pos rfl] at hX
        unfold compStep
        walk_at "q"
        refine ⟨by first | omega | (rw [List.length_map] at hn; omega), ?_⟩
        simpa [prB_e] using hX
      walk_at "q"
      refine cIf_b (fun h3 => ?_) (fun h3 => ?_)
      rotate_left
      · walk_at "q"
        rw [distB_bad h3] at h
        exact h
      walk_at "q"
      refine comp_pure (prB fun _ e => decide (toI e > 0)) (fun d => .int (prI (fun p e => p - toI e) d)) (fun n d acc X hd hl hX => ?_) ?_
      · obtain ⟨e, he, rfl⟩ := num_get hd
        obtain ⟨i, rfl, _, _⟩ := okE_get h3 he
        have hn := (List.getElem?_eq_some_iff.mp hd).1
        rw [numbered_length] at hn
        simp only [prB_e, prI_e, toI, Nat.zero_add, gt_iff_lt] at hX
        unfold compStep
        walk_at "q"
        refine cIf_i (fun h4 => ?_) (fun h4 => ?_)
        · walk_at "q"
          rw [if_pos (decide_eq_true h4)] at hX
          exact ⟨by first | omega | (rw [List.length_map] at hn; omega), hX⟩
        · walk_at "q"
          rw [if_neg (by simpa using h4)] at hX
          exact hX
      walk_at "q"
      refine ⟨tgs _, by unfold tgs; rw [List.map_map]; rfl, Nat.le_trans (tgs_length _) (by first | omega | (rw [List.length_map]; omega)), ?_⟩
      rw [show distB _ = _ from distB_ok (by first | omega | (rw [List.length_map]; omega)) h3] at h
      exact h
    · walk_at "q"
      simp only [isDist] at h
      refine cIf_i (fun h2 => ?_) (fun h2 => ?_)
      · walk_at "q"
        rw [distB_long (by first | omega | (rw [List.length_map]; omega))] at h
        exact h
      walk_at "q"
      refine comp_pure (fun _ => true) (fun d => .bl (prB (fun p e => intIn 0 (.int p) e) d)) (fun n d acc X hd hl hX => ?_) ?_
      · obtain ⟨e, he, rfl⟩ := num_get hd
        have hn := (List.getElem?_eq_some_iff.mp hd).1
        rw [numbered_length] at hn
        rw [if_pos rfl] at hX
        unfold compStep
        walk_at "q"
        refine ⟨by first | omega | (rw [List.length_map] at hn; omega), ?_⟩
        simpa [prB_e] using hX
      walk_at "q"
      refine cIf_b (fun h3 => ?_) (fun h3 => ?_)
      rotate_left
      · walk_at "q"
        rw [distB_bad h3] at h
        exact h
      walk_at "q"
      refine comp_pure (prB fun _ e => decide (toI e > 0)) (fun d => .int (prI (fun p e => p - toI e) d)) (fun n d acc X hd hl hX => ?_) ?_
      · obtain ⟨e, he, rfl⟩ := num_get hd
        obtain ⟨i, rfl, _, _⟩ := okE_get h3 he
        have hn := (List.getElem?_eq_some_iff.mp hd).1
        rw [numbered_length] at hn
        simp only [prB_e, prI_e, toI, Nat.zero_add, gt_iff_lt] at hX
        unfold compStep
        walk_at "q"
        refine cIf_i (fun h4 => ?_) (fun h4 => ?_)
        · walk_at "q"
          rw [if_pos (decide_eq_true h4)] at hX
          exact ⟨by first | omega | (rw [List.length_map] at hn; omega), hX⟩
        · walk_at "q"
          rw [if_neg (by simpa using h4)] at hX
          exact hX
      walk_at "q"
      refine ⟨tgs _, by unfold tgs; rw [List.map_map]; rfl, Nat.le_trans (tgs_length _) (by first | omega | (rw [List.length_map]; omega)), ?_⟩
      rw [show distB _ = _ from distB_ok (by first | omega | (rw [List.length_map]; omega)) h3] at h
      exact h
    · walk_at "q"
      simp only [isDist] at h
      refine cIf_i (fun h2 => ?_) (fun h2 => ?_)
      · walk_at "q"
        rw [distB_long (by first | omega | (rw [List.length_map]; omega))] at h
        exact h
      walk_at "q"
      refine comp_pure (fun _ => true) (fun d => .bl (prB (fun p e => intIn 0 (.int p) e) d)) (fun n d acc X hd hl hX => ?_) ?_
      · obtain ⟨e, he, rfl⟩ := num_get hd
        have hn := (List.getElem?_eq_some_iff.mp hd).1
        rw [numbered_length] at hn
        rw [if_pos rfl] at hX
        unfold compStep
        walk_at "q"
        refine ⟨by first | omega | (rw [List.length_map] at hn; omega), ?_⟩
        simpa [prB_e] using hX
      walk_at "q"
      refine cIf_b (fun h3 => ?_) (fun h3 => ?_)
      rotate_left
      · walk_at "q"
        rw [distB_bad h3] at h
        exact h
      walk_at "q"
      refine comp_pure (prB fun _ e => decide (toI e > 0)) (fun d => .int (prI (fun p e => p - toI e) d)) (fun n d acc X hd hl hX => ?_) ?_
      · obtain ⟨e, he, rfl⟩ := num_get hd
        obtain ⟨i, rfl, _, _⟩ := okE_get h3 he
        have hn := (List.getElem?_eq_some_iff.mp hd).1
        rw [numbered_length] at hn
        simp only [prB_e, prI_e, toI, Nat.zero_add, gt_iff_lt] at hX
        unfold compStep
        walk_at "q"
        refine cIf_i (fun h4 => ?_) (fun h4 => ?_)
        · walk_at "q"
          rw [if_pos (decide_eq_true h4)] at hX
          exact ⟨by first | omega | (rw [List.length_map] at hn; omega), hX⟩
        · walk_at "q"
          rw [if_neg (by simpa using h4)] at hX
          exact hX
      walk_at "q"
      refine ⟨tgs _, by unfold tgs; rw [List.map_map]; rfl, Nat.le_trans (tgs_length _) (by first | omega | (rw [List.length_map]; omega)), ?_⟩
      rw [show distB _ = _ from distB_ok (by first | omega | (rw [List.length_map]; omega)) h3] at h
      exact h
theorem cal_is_distances (T : Tx K mg) : Cal P w K mg base g 2 "is_distances" [] sp_is_distances := by
  obtain ⟨fd, G, Fn⟩ := fn_is_distances (P := P) (w := w) (base := base) (g := g) T
  exact ⟨_, fd, _, [], G, T.g_is_distances, Fn.kp, Fn.bindsN fun _ _ _ _ _ _ us hl => match us, hl with | [_], _ => rfl, .nil, rfl⟩
end

local macro_rules | `(tactic| walk_at "p") => `(tactic| (repeat (rw [pkV]; try walk_at "q")))
local macro_rules | `(tactic| walk_at "len") => `(tactic| (first | omega | (simp only [List.length_map, List.length_append, List.length_reverse, List.length_take, List.length_drop, List.length_dropLast, List.length_cons, List.length_nil, List.length_set, List.length_replicate, dist_length, nxt_length, idsD_length, numbered_length, ranged_length, upto_length]; omega)))
local macro_rules | `(tactic| walk_at "q") => `(tactic| (try simp only [↓hold1, ↓hold2, ↓cIf_t, ↓cIf_f, ↓lk0, ↓lk1, ↓st0, ↓st1, ↓wp0, ↓wp1, ↓wpm, ↓wpn, ↓sD_sh, ↓sD_own, ↓sD_bor, ↓rd_d, ↓rd_p, ↓dB_b, ↓dI_i, ↓dX_x, ↓dK_i, ↓dK_s, ↓dL_l, ↓dIt_l, ↓dIt_t, ↓dIt_s, ↓shS_sh, ↓shS_own, ↓shS_bor, ↓sh1_d, ↓sh1_p, ↓shs0, ↓shs1, ↓ress0, ↓ress1, ↓bagS_b, ↓arg_bor, ↓arg_sh, ↓arg_bag, ↓args0, ↓args1, ↓ap0, ↓ap0', ↓ap1, ↓reS_sh, ↓reS_own, ↓reS_bor, ↓ret_d, ↓ret_p, ↓asS_sh, ↓asS_own, ↓asS_bor, ↓as_d, ↓as_p, ↓rv_sh, ↓rv_own, ↓da_sh, ↓da_own, ↓itS_sh, ↓itS_own, ↓itS_bor, ↓it_d, ↓it_p, ↓e_var, ↓e_sh, ↓e_own, ↓e_bor, ↓e_bag, ↓e_c, ↓e_op, ↓e_opR, ↓e_test, ↓e_and, ↓e_or, ↓e_not, ↓e_andV, ↓e_orV, ↓e_notV, ↓e_ifE, ↓e_nil, ↓e_cons, ↓e_cb, ↓e_cbR, ↓e_ofN, ↓e_lst, ↓e_tup, ↓e_call, ↓e_callS, ↓e_next, ↓e_seq, ↓e_drop, ↓e_ret, ↓e_retN, ↓e_if, ↓e_set, ↓e_setN, ↓e_raise, ↓e_name, ↓e_gnil, ↓e_gcons, ↓e_gtup, ↓e_for, ↓e_seqI, ↓e_enum, ↓rg1_i, ↓rg2_i, ↓e_rng1, ↓e_rng2, ↓e_lc, ↓e_yes, ↓e_onone, ↓e_osome, ↓e_sl, ↓e_isi, ↓e_isi2, ↓ownL_l, ↓ownA_l, ↓sO_o, ↓e_meth, ↓e_dnew, ↓e_dput, ↓e_lput, ↓e_lenSet, ↓e_chain, ↓e_asgT, ↓e_toN, ↓e_parN, ↓e_getD, ↓f_inC, ↓f_inI, ↓f_inIT, ↓f_inS, ↓pkC0, ↓pkC_sh, ↓pkC_own, ↓pkC_bor, ↓pkC_bag, ↓pkC_no, ↓f_ix0, ↓f_ix1, ↓f_ix2, ↓f_ix3, ↓f_ix4, ↓f_ixT0, ↓f_ixT1, ↓f_ixT2, ↓f_ixT3, ↓f_ixT4, ↓e_loopC, ↓e_loopN, ↓e_step, ↓e_exI, ↓e_toI, ↓f_eqW1, ↓f_eqW2, ↓f_eqW3, ↓f_sortI, ↓f_eqNN, ↓f_notScrL, ↓f_notScrT, ↓f_eqSL, ↓f_neSL, ↓f_eqSNil, ↓f_neSNil, ↓f_neNN, ↓e_lstRg1, ↓e_ifN, ↓e_ixl0, ↓e_ixl1, ↓e_ixl2, ↓e_ixl3, ↓e_ixt0, ↓e_ixt1, ↓e_ixt2, ↓e_ixt3, ↓f_inT2S, ↓f_eqNl, ↓e_isEx, ↓f_nonE, ↓f_empC, ↓f_empN, ↓e_dObj, ↓e_lkHit, ↓e_pfHit, ↓e_pfNil, ↓e_fld, ↓e_fput, ↓e_startM, ↓e_mnx, ↓e_mrt, ↓e_mex, ↓e_npN, ↓e_npD, ↓e_npB, ↓e_npP, ↓e_callM, ↓e_callR, ↓e_make, ↓e_ty_int_T, ↓e_ty_int_O, ↓e_ty_bool_T, ↓e_ty_bool_O, ↓e_ty_str_T, ↓e_ty_str_O, ↓e_ty_list_T, ↓e_ty_list_O, ↓e_ty_tuple_T, ↓e_ty_tuple_O, ↓e_ty_dict_T, ↓e_ty_dict_O, ↓e_gunl, ↓f_sortITl, ↓f_sortITt, ↓e_tryC, ↓f_sub, ↓f_mod, ↓f_div, ↓f_divW, ↓f_pow, ↓f_lt, ↓f_le, ↓f_gt, ↓f_ge, ↓f_addI, ↓f_addS, ↓f_addL, ↓f_mulI, ↓f_mulL, ↓f_eqI, ↓f_neI, ↓f_eqS, ↓f_neS, ↓f_eqB, ↓f_neB, ↓f_isN, ↓f_isNotN, ↓f_lenL, ↓f_lenT, ↓f_lenR, ↓f_lenS, ↓f_min, ↓f_max, ↓f_abs, ↓f_intI, ↓f_intB, ↓f_listL, ↓f_listT, ↓f_listS, ↓f_tupL, ↓f_slL, ↓f_slR, ↓f_slT, ↓f_app, ↓f_ext, ↓f_allM, ↓f_anyM, ↓f_eqIL, ↓f_neIL, ↓f_eqIT, ↓f_neIT, ↓f_eqNil, ↓f_neNil, ↓e_is_integer_distances, ↓e_is_integer_distancesN, ↓e_is_sequence_distances, ↓e_is_distances, ty_int_n, ty_int_b, ty_int_i, ty_int_s, ty_int_l, ty_int_t, ty_int_r, ty_int_d, ty_int_e, ty_bool_n, ty_bool_b, ty_bool_i, ty_bool_s, ty_bool_l, ty_bool_t, ty_bool_r, ty_bool_d, ty_bool_e, ty_str_n, ty_str_b, ty_str_i, ty_str_s, ty_str_l, ty_str_t, ty_str_r, ty_str_d, ty_str_e, ty_list_n, ty_list_b, ty_list_i, ty_list_s, ty_list_l, ty_list_t, ty_list_r, ty_list_d, ty_list_e, ty_tuple_n, ty_tuple_b, ty_tuple_i, ty_tuple_s, ty_tuple_l, ty_tuple_t, ty_tuple_r, ty_tuple_d, ty_tuple_e, ty_dict_n, ty_dict_b, ty_dict_i, ty_dict_s, ty_dict_l, ty_dict_t, ty_dict_r, ty_dict_d, ty_dict_e, cIf_t, cIf_f, cIf_n, isSc_n, isSc_b, isSc_i, isSc_s, ex_some, Int.reduceLT, Int.reduceLE, Int.reduceGT, Int.reduceGE, Int.reduceEq, Int.reduceNe, Int.reduceAdd, Int.reduceSub, Int.reduceMul, Int.reduceNeg, Int.reduceToNat, Int.reducePow, Nat.reduceLT, Nat.reduceAdd, Nat.reduceSub, Nat.reduceLeDiff, Nat.reduceEqDiff, Nat.reduceMul, Int.cast_ofNat_Int, true_or, true_and, and_true, List.length_cons, List.length_nil, List.length_map, n_n, n_b, n_i, n_s, n_l, n_t, se_c, se_n, se_0, ar_b, ar_s, ar_g, Bool.or_true, Bool.true_or, Bool.or_false, Bool.false_or, Bool.and_true, Bool.true_and, Bool.and_false, Bool.false_and, Bool.not_true, Bool.not_false, Bool.not_not, decide_true, decide_false, int_app, filter_tt, eq_self, Option.map_some, Option.map_none, Option.isSome_some, Option.isSome_none, Bool.false_eq_true, if_false, if_true, Nat.zero_add, Int.zero_add, Int.add_zero, Int.sub_zero, List.map_nil, List.nil_append, List.append_nil, int_rev, int_take, int_drop, int_dropLast, int_appL, e_toI, e_is_integer_distances, e_is_integer_distancesN, e_is_sequence_distances, e_is_distances]))

/-! ### is_integer_facts -/

def sp_is_integer_facts : Spq := fun as k x => ∃ (d : D) (lo : Int) (hi : Int), as = [.bor d, .bor (.int lo), .bor (.int hi)] ∧ (k (.sh (.bl (intIn lo (.int hi) d))))
theorem e_is_integer_facts {d : D} {lo : Int} {hi : Int} {k : Rv → Prop} {x : Str → List D → Prop} : sp_is_integer_facts [.bor d, .bor (.int lo), .bor (.int hi)] k x = (k (.sh (.bl (intIn lo (.int hi) d)))) := propext ⟨fun h => (by
  obtain ⟨d2, lo2, hi2, h, q⟩ := h
  simp only [List.cons.injEq, Ar.bor.injEq, Ar.sh.injEq, Ar.bag.injEq, D.lst.injEq, D.tup.injEq, D.int.injEq, D.str.injEq, D.bl.injEq, ints_inj, strs_inj, and_true, true_and] at h
  (obtain ⟨rfl, rfl, rfl⟩ := h)
  exact q), fun q => ⟨_, _, _, rfl, q⟩⟩

section
variable {P : Program} {w : World} {K : Fg} {mg : Str → Option Value} {base : Heap} {g : Gd}
theorem sc_is_integer_facts : FnScope ["value", "low", "high"] ["value", "low", "high"] (defScope s_is_integer_facts) := ⟨rfl, rfl, rfl, by decide +kernel, rfl, by decide +kernel, by decide +kernel⟩
theorem fn_is_integer_facts (T : Tx K mg) : ∃ fd, FnG P w K mg base 1 (He.ga K "is_integer_facts") fd ["value", "low", "high"] (spQ K mg g sp_is_integer_facts) ∧ FunD K "is_integer" "is_integer" (defArgs s_is_integer_facts) (defBody s_is_integer_facts) (defScope s_is_integer_facts) [] [] (He.ga K "is_integer_facts") fd := by
  have sc := sc_is_integer_facts
  obtain ⟨fd, Fn⟩ := T.f_is_integer_facts
  refine ⟨fd, fn_q g Fn sc (by decide) (fun as k x h => ?_) fun cdv A outer s H E hgd hr => ?_, Fn⟩
  · unfold sp_is_integer_facts at h; first | (split at h <;> first | rfl | exact h.elim) | (obtain ⟨_, rfl, _⟩ := h; rfl) | (obtain ⟨_, _, rfl, _⟩ := h; rfl) | (obtain ⟨_, _, _, rfl, _⟩ := h; rfl) | (obtain ⟨_, _, _, _, rfl, _⟩ := h; rfl) | (obtain ⟨_, _, _, _, _, rfl, _⟩ := h; rfl) | (obtain ⟨_, _, _, _, _, _, rfl, _⟩ := h; rfl)
  · have tk : Takes (cxOf (L2.CX P w) P w K mg base ["value", "low", "high"] "is_integer" (defScope s_is_integer_facts) (He.ga K "is_integer_facts") cdv A outer s H E) (fun cls d _ H => E cls d H) := takes_of rfl rfl rfl rfl
    refine ⟨_, _, (qs_one (qs_ret (q_and (q_isi (T := "int") (by exact rfl) T.z_isinstance (by exact rfl) T.z_int (by decide +kernel) (by exact rfl) (q_var 0) (by decide) (by decide) (by rfl)) (q_and (q_not (q_isi (T := "bool") (by exact rfl) T.z_isinstance (by exact rfl) T.z_bool (by decide +kernel) (by exact rfl) (q_var 0) (by decide) (by decide) (by rfl))) (q_one (q_chain op_le o_le op_le o_le (q_var 1) (q_var 0) (q_var 2) (by with_unfolding_all rfl))))))), fun as k x h => ?_⟩
    clear tk hr hgd Fn sc T
    obtain ⟨d, lo, hi, rfl, hk⟩ := h
    cases d
    case int i =>
      walk_at "q"
      refine cIf_i (fun h1 => ?_) (fun h1 => ?_)
      · walk_at "q"
        rw [show intIn lo (.int hi) (.int i) = decide (i ≤ hi) by simp [intIn, leO, h1]] at hk
        exact hk
      · walk_at "q"
        rw [show intIn lo (.int hi) (.int i) = false by simp [intIn, h1]] at hk
        exact hk
    all_goals walk_at "q"
    all_goals exact hk
theorem cal_is_integer_facts (T : Tx K mg) : Cal P w K mg base g 1 "is_integer_facts" [] sp_is_integer_facts := by
  obtain ⟨fd, G, Fn⟩ := fn_is_integer_facts (P := P) (w := w) (base := base) (g := g) T
  exact ⟨_, fd, _, [], G, T.g_is_integer_facts, Fn.kp, Fn.bindsN fun _ _ _ _ _ _ us hl => match us, hl with | [_, _, _], _ => rfl, .nil, rfl⟩
end

local macro_rules | `(tactic| walk_at "p") => `(tactic| (repeat (rw [pkV]; try walk_at "q")))
local macro_rules | `(tactic| walk_at "len") => `(tactic| (first | omega | (simp only [List.length_map, List.length_append, List.length_reverse, List.length_take, List.length_drop, List.length_dropLast, List.length_cons, List.length_nil, List.length_set, List.length_replicate, dist_length, nxt_length, idsD_length, numbered_length, ranged_length, upto_length]; omega)))
local macro_rules | `(tactic| walk_at "q") => `(tactic| (try simp only [↓hold1, ↓hold2, ↓cIf_t, ↓cIf_f, ↓lk0, ↓lk1, ↓st0, ↓st1, ↓wp0, ↓wp1, ↓wpm, ↓wpn, ↓sD_sh, ↓sD_own, ↓sD_bor, ↓rd_d, ↓rd_p, ↓dB_b, ↓dI_i, ↓dX_x, ↓dK_i, ↓dK_s, ↓dL_l, ↓dIt_l, ↓dIt_t, ↓dIt_s, ↓shS_sh, ↓shS_own, ↓shS_bor, ↓sh1_d, ↓sh1_p, ↓shs0, ↓shs1, ↓ress0, ↓ress1, ↓bagS_b, ↓arg_bor, ↓arg_sh, ↓arg_bag, ↓args0, ↓args1, ↓ap0, ↓ap0', ↓ap1, ↓reS_sh, ↓reS_own, ↓reS_bor, ↓ret_d, ↓ret_p, ↓asS_sh, ↓asS_own, ↓asS_bor, ↓as_d, ↓as_p, ↓rv_sh, ↓rv_own, ↓da_sh, ↓da_own, ↓itS_sh, ↓itS_own, ↓itS_bor, ↓it_d, ↓it_p, ↓e_var, ↓e_sh, ↓e_own, ↓e_bor, ↓e_bag, ↓e_c, ↓e_op, ↓e_opR, ↓e_test, ↓e_and, ↓e_or, ↓e_not, ↓e_andV, ↓e_orV, ↓e_notV, ↓e_ifE, ↓e_nil, ↓e_cons, ↓e_cb, ↓e_cbR, ↓e_ofN, ↓e_lst, ↓e_tup, ↓e_call, ↓e_callS, ↓e_next, ↓e_seq, ↓e_drop, ↓e_ret, ↓e_retN, ↓e_if, ↓e_set, ↓e_setN, ↓e_raise, ↓e_name, ↓e_gnil, ↓e_gcons, ↓e_gtup, ↓e_for, ↓e_seqI, ↓e_enum, ↓rg1_i, ↓rg2_i, ↓e_rng1, ↓e_rng2, ↓e_lc, ↓e_yes, ↓e_onone, ↓e_osome, ↓e_sl, ↓e_isi, ↓e_isi2, ↓ownL_l, ↓ownA_l, ↓sO_o, ↓e_meth, ↓e_dnew, ↓e_dput, ↓e_lput, ↓e_lenSet, ↓e_chain, ↓e_asgT, ↓e_toN, ↓e_parN, ↓e_getD, ↓f_inC, ↓f_inI, ↓f_inIT, ↓f_inS, ↓pkC0, ↓pkC_sh, ↓pkC_own, ↓pkC_bor, ↓pkC_bag, ↓pkC_no, ↓f_ix0, ↓f_ix1, ↓f_ix2, ↓f_ix3, ↓f_ix4, ↓f_ixT0, ↓f_ixT1, ↓f_ixT2, ↓f_ixT3, ↓f_ixT4, ↓e_loopC, ↓e_loopN, ↓e_step, ↓e_exI, ↓e_toI, ↓f_eqW1, ↓f_eqW2, ↓f_eqW3, ↓f_sortI, ↓f_eqNN, ↓f_notScrL, ↓f_notScrT, ↓f_eqSL, ↓f_neSL, ↓f_eqSNil, ↓f_neSNil, ↓f_neNN, ↓e_lstRg1, ↓e_ifN, ↓e_ixl0, ↓e_ixl1, ↓e_ixl2, ↓e_ixl3, ↓e_ixt0, ↓e_ixt1, ↓e_ixt2, ↓e_ixt3, ↓f_inT2S, ↓f_eqNl, ↓e_isEx, ↓f_nonE, ↓f_empC, ↓f_empN, ↓e_dObj, ↓e_lkHit, ↓e_pfHit, ↓e_pfNil, ↓e_fld, ↓e_fput, ↓e_startM, ↓e_mnx, ↓e_mrt, ↓e_mex, ↓e_npN, ↓e_npD, ↓e_npB, ↓e_npP, ↓e_callM, ↓e_callR, ↓e_make, ↓e_ty_int_T, ↓e_ty_int_O, ↓e_ty_bool_T, ↓e_ty_bool_O, ↓e_ty_str_T, ↓e_ty_str_O, ↓e_ty_list_T, ↓e_ty_list_O, ↓e_ty_tuple_T, ↓e_ty_tuple_O, ↓e_ty_dict_T, ↓e_ty_dict_O, ↓e_gunl, ↓f_sortITl, ↓f_sortITt, ↓e_tryC, ↓f_sub, ↓f_mod, ↓f_div, ↓f_divW, ↓f_pow, ↓f_lt, ↓f_le, ↓f_gt, ↓f_ge, ↓f_addI, ↓f_addS, ↓f_addL, ↓f_mulI, ↓f_mulL, ↓f_eqI, ↓f_neI, ↓f_eqS, ↓f_neS, ↓f_eqB, ↓f_neB, ↓f_isN, ↓f_isNotN, ↓f_lenL, ↓f_lenT, ↓f_lenR, ↓f_lenS, ↓f_min, ↓f_max, ↓f_abs, ↓f_intI, ↓f_intB, ↓f_listL, ↓f_listT, ↓f_listS, ↓f_tupL, ↓f_slL, ↓f_slR, ↓f_slT, ↓f_app, ↓f_ext, ↓f_allM, ↓f_anyM, ↓f_eqIL, ↓f_neIL, ↓f_eqIT, ↓f_neIT, ↓f_eqNil, ↓f_neNil, ↓e_is_integer_distances, ↓e_is_integer_distancesN, ↓e_is_sequence_distances, ↓e_is_distances, ↓e_is_integer_facts, ty_int_n, ty_int_b, ty_int_i, ty_int_s, ty_int_l, ty_int_t, ty_int_r, ty_int_d, ty_int_e, ty_bool_n, ty_bool_b, ty_bool_i, ty_bool_s, ty_bool_l, ty_bool_t, ty_bool_r, ty_bool_d, ty_bool_e, ty_str_n, ty_str_b, ty_str_i, ty_str_s, ty_str_l, ty_str_t, ty_str_r, ty_str_d, ty_str_e, ty_list_n, ty_list_b, ty_list_i, ty_list_s, ty_list_l, ty_list_t, ty_list_r, ty_list_d, ty_list_e, ty_tuple_n, ty_tuple_b, ty_tuple_i, ty_tuple_s, ty_tuple_l, ty_tuple_t, ty_tuple_r, ty_tuple_d, ty_tuple_e, ty_dict_n, ty_dict_b, ty_dict_i, ty_dict_s, ty_dict_l, ty_dict_t, ty_dict_r, ty_dict_d, ty_dict_e, cIf_t, cIf_f, cIf_n, isSc_n, isSc_b, isSc_i, isSc_s, ex_some, Int.reduceLT, Int.reduceLE, Int.reduceGT, Int.reduceGE, Int.reduceEq, Int.reduceNe, Int.reduceAdd, Int.reduceSub, Int.reduceMul, Int.reduceNeg, Int.reduceToNat, Int.reducePow, Nat.reduceLT, Nat.reduceAdd, Nat.reduceSub, Nat.reduceLeDiff, Nat.reduceEqDiff, Nat.reduceMul, Int.cast_ofNat_Int, true_or, true_and, and_true, List.length_cons, List.length_nil, List.length_map, n_n, n_b, n_i, n_s, n_l, n_t, se_c, se_n, se_0, ar_b, ar_s, ar_g, Bool.or_true, Bool.true_or, Bool.or_false, Bool.false_or, Bool.and_true, Bool.true_and, Bool.and_false, Bool.false_and, Bool.not_true, Bool.not_false, Bool.not_not, decide_true, decide_false, int_app, filter_tt, eq_self, Option.map_some, Option.map_none, Option.isSome_some, Option.isSome_none, Bool.false_eq_true, if_false, if_true, Nat.zero_add, Int.zero_add, Int.add_zero, Int.sub_zero, List.map_nil, List.nil_append, List.append_nil, int_rev, int_take, int_drop, int_dropLast, int_appL, e_toI, e_is_integer_distances, e_is_integer_distancesN, e_is_sequence_distances, e_is_distances, e_is_integer_facts]))

/-! ### is_sequence_facts -/
def sp_is_sequence_facts : Spq := fun as k _ => ∃ d, as = [.bor d] ∧ k (.sh (.bl (isSeq d)))
theorem e_is_sequence_facts {d : D} {k : Rv → Prop} {x : Str → List D → Prop} : sp_is_sequence_facts [.bor d] k x = k (.sh (.bl (isSeq d))) := propext ⟨fun ⟨_, h, q⟩ => (by cases h; exact q), fun q => ⟨_, rfl, q⟩⟩
section
variable {P : Program} {w : World} {K : Fg} {mg : Str → Option Value} {base : Heap} {g : Gd}
theorem sc_is_sequence_facts : FnScope ["value"] ["value"] (defScope s_is_sequence_facts) := ⟨rfl, rfl, rfl, by decide +kernel, rfl, by decide +kernel, by decide +kernel⟩
theorem fn_is_sequence_facts (T : Tx K mg) : ∃ fd, FnG P w K mg base 1 (He.ga K "is_sequence_facts") fd ["value"] (spQ K mg g sp_is_sequence_facts) ∧ FunD K "is_sequence" "is_sequence" (defArgs s_is_sequence_facts) (defBody s_is_sequence_facts) (defScope s_is_sequence_facts) [] [] (He.ga K "is_sequence_facts") fd := by
  have sc := sc_is_sequence_facts
  obtain ⟨fd, Fn⟩ := T.f_is_sequence_facts
  refine ⟨fd, fn_q g Fn sc (by decide) (fun as k x h => ?_) fun cdv A outer s H E hgd hr => ?_, Fn⟩
  · unfold sp_is_sequence_facts at h; first | (split at h <;> first | rfl | exact h.elim) | (obtain ⟨_, rfl, _⟩ := h; rfl) | (obtain ⟨_, _, rfl, _⟩ := h; rfl) | (obtain ⟨_, _, _, rfl, _⟩ := h; rfl) | (obtain ⟨_, _, _, _, rfl, _⟩ := h; rfl) | (obtain ⟨_, _, _, _, _, rfl, _⟩ := h; rfl) | (obtain ⟨_, _, _, _, _, _, rfl, _⟩ := h; rfl)
  · have tk : Takes (cxOf (L2.CX P w) P w K mg base ["value"] "is_sequence" (defScope s_is_sequence_facts) (He.ga K "is_sequence_facts") cdv A outer s H E) (fun cls d _ H => E cls d H) := takes_of rfl rfl rfl rfl
    refine ⟨_, _, (qs_one (qs_ret (q_isi2 (T := "list") (U := "tuple") (by exact rfl) T.z_isinstance (by exact rfl) T.z_list (by decide +kernel) (by exact rfl) (by exact rfl) T.z_tuple (by decide +kernel) (by exact rfl) (q_var 0) (by decide) (by decide) (by decide) (by decide) (by rfl)))), fun as k x h => ?_⟩
    clear tk hr hgd Fn sc T
    obtain ⟨d, rfl, h⟩ := h
    walk_at "q"
    exact h
theorem cal_is_sequence_facts (T : Tx K mg) : Cal P w K mg base g 1 "is_sequence_facts" [] sp_is_sequence_facts := by
  obtain ⟨fd, G, Fn⟩ := fn_is_sequence_facts (P := P) (w := w) (base := base) (g := g) T
  exact ⟨_, fd, _, [], G, T.g_is_sequence_facts, Fn.kp, Fn.bindsN fun _ _ _ _ _ _ us hl => match us, hl with | [_], _ => rfl, .nil, rfl⟩
end

local macro_rules | `(tactic| walk_at "p") => `(tactic| (repeat (rw [pkV]; try walk_at "q")))
local macro_rules | `(tactic| walk_at "len") => `(tactic| (first | omega | (simp only [List.length_map, List.length_append, List.length_reverse, List.length_take, List.length_drop, List.length_dropLast, List.length_cons, List.length_nil, List.length_set, List.length_replicate, dist_length, nxt_length, idsD_length, numbered_length, ranged_length, upto_length]; omega)))
local macro_rules | `(tactic| walk_at "q") => `(tactic| (try simp only [↓hold1, ↓hold2, ↓cIf_t, ↓cIf_f, ↓lk0, ↓lk1, ↓st0, ↓st1, ↓wp0, ↓wp1, ↓wpm, ↓wpn, ↓sD_sh, ↓sD_own, ↓sD_bor, ↓rd_d, ↓rd_p, ↓dB_b, ↓dI_i, ↓dX_x, ↓dK_i, ↓dK_s, ↓dL_l, ↓dIt_l, ↓dIt_t, ↓dIt_s, ↓shS_sh, ↓shS_own, ↓shS_bor, ↓sh1_d, ↓sh1_p, ↓shs0, ↓shs1, ↓ress0, ↓ress1, ↓bagS_b, ↓arg_bor, ↓arg_sh, ↓arg_bag, ↓args0, ↓args1, ↓ap0, ↓ap0', ↓ap1, ↓reS_sh, ↓reS_own, ↓reS_bor, ↓ret_d, ↓ret_p, ↓asS_sh, ↓asS_own, ↓asS_bor, ↓as_d, ↓as_p, ↓rv_sh, ↓rv_own, ↓da_sh, ↓da_own, ↓itS_sh, ↓itS_own, ↓itS_bor, ↓it_d, ↓it_p, ↓e_var, ↓e_sh, ↓e_own, ↓e_bor, ↓e_bag, ↓e_c, ↓e_op, ↓e_opR, ↓e_test, ↓e_and, ↓e_or, ↓e_not, ↓e_andV, ↓e_orV, ↓e_notV, ↓e_ifE, ↓e_nil, ↓e_cons, ↓e_cb, ↓e_cbR, ↓e_ofN, ↓e_lst, ↓e_tup, ↓e_call, ↓e_callS, ↓e_next, ↓e_seq, ↓e_drop, ↓e_ret, ↓e_retN, ↓e_if, ↓e_set, ↓e_setN, ↓e_raise, ↓e_name, ↓e_gnil, ↓e_gcons, ↓e_gtup, ↓e_for, ↓e_seqI, ↓e_enum, ↓rg1_i, ↓rg2_i, ↓e_rng1, ↓e_rng2, ↓e_lc, ↓e_yes, ↓e_onone, ↓e_osome, ↓e_sl, ↓e_isi, ↓e_isi2, ↓ownL_l, ↓ownA_l, ↓sO_o, ↓e_meth, ↓e_dnew, ↓e_dput, ↓e_lput, ↓e_lenSet, ↓e_chain, ↓e_asgT, ↓e_toN, ↓e_parN, ↓e_getD, ↓f_inC, ↓f_inI, ↓f_inIT, ↓f_inS, ↓pkC0, ↓pkC_sh, ↓pkC_own, ↓pkC_bor, ↓pkC_bag, ↓pkC_no, ↓f_ix0, ↓f_ix1, ↓f_ix2, ↓f_ix3, ↓f_ix4, ↓f_ixT0, ↓f_ixT1, ↓f_ixT2, ↓f_ixT3, ↓f_ixT4, ↓e_loopC, ↓e_loopN, ↓e_step, ↓e_exI, ↓e_toI, ↓f_eqW1, ↓f_eqW2, ↓f_eqW3, ↓f_sortI, ↓f_eqNN, ↓f_notScrL, ↓f_notScrT, ↓f_eqSL, ↓f_neSL, ↓f_eqSNil, ↓f_neSNil, ↓f_neNN, ↓e_lstRg1, ↓e_ifN, ↓e_ixl0, ↓e_ixl1, ↓e_ixl2, ↓e_ixl3, ↓e_ixt0, ↓e_ixt1, ↓e_ixt2, ↓e_ixt3, ↓f_inT2S, ↓f_eqNl, ↓e_isEx, ↓f_nonE, ↓f_empC, ↓f_empN, ↓e_dObj, ↓e_lkHit, ↓e_pfHit, ↓e_pfNil, ↓e_fld, ↓e_fput, ↓e_startM, ↓e_mnx, ↓e_mrt, ↓e_mex, ↓e_npN, ↓e_npD, ↓e_npB, ↓e_npP, ↓e_callM, ↓e_callR, ↓e_make, ↓e_ty_int_T, ↓e_ty_int_O, ↓e_ty_bool_T, ↓e_ty_bool_O, ↓e_ty_str_T, ↓e_ty_str_O, ↓e_ty_list_T, ↓e_ty_list_O, ↓e_ty_tuple_T, ↓e_ty_tuple_O, ↓e_ty_dict_T, ↓e_ty_dict_O, ↓e_gunl, ↓f_sortITl, ↓f_sortITt, ↓e_tryC, ↓f_sub, ↓f_mod, ↓f_div, ↓f_divW, ↓f_pow, ↓f_lt, ↓f_le, ↓f_gt, ↓f_ge, ↓f_addI, ↓f_addS, ↓f_addL, ↓f_mulI, ↓f_mulL, ↓f_eqI, ↓f_neI, ↓f_eqS, ↓f_neS, ↓f_eqB, ↓f_neB, ↓f_isN, ↓f_isNotN, ↓f_lenL, ↓f_lenT, ↓f_lenR, ↓f_lenS, ↓f_min, ↓f_max, ↓f_abs, ↓f_intI, ↓f_intB, ↓f_listL, ↓f_listT, ↓f_listS, ↓f_tupL, ↓f_slL, ↓f_slR, ↓f_slT, ↓f_app, ↓f_ext, ↓f_allM, ↓f_anyM, ↓f_eqIL, ↓f_neIL, ↓f_eqIT, ↓f_neIT, ↓f_eqNil, ↓f_neNil, ↓e_is_integer_distances, ↓e_is_integer_distancesN, ↓e_is_sequence_distances, ↓e_is_distances, ↓e_is_integer_facts, ↓e_is_sequence_facts, ty_int_n, ty_int_b, ty_int_i, ty_int_s, ty_int_l, ty_int_t, ty_int_r, ty_int_d, ty_int_e, ty_bool_n, ty_bool_b, ty_bool_i, ty_bool_s, ty_bool_l, ty_bool_t, ty_bool_r, ty_bool_d, ty_bool_e, ty_str_n, ty_str_b, ty_str_i, ty_str_s, ty_str_l, ty_str_t, ty_str_r, ty_str_d, ty_str_e, ty_list_n, ty_list_b, ty_list_i, ty_list_s, ty_list_l, ty_list_t, ty_list_r, ty_list_d, ty_list_e, ty_tuple_n, ty_tuple_b, ty_tuple_i, ty_tuple_s, ty_tuple_l, ty_tuple_t, ty_tuple_r, ty_tuple_d, ty_tuple_e, ty_dict_n, ty_dict_b, ty_dict_i, ty_dict_s, ty_dict_l, ty_dict_t, ty_dict_r, ty_dict_d, ty_dict_e, cIf_t, cIf_f, cIf_n, isSc_n, isSc_b, isSc_i, isSc_s, ex_some, Int.reduceLT, Int.reduceLE, Int.reduceGT, Int.reduceGE, Int.reduceEq, Int.reduceNe, Int.reduceAdd, Int.reduceSub, Int.reduceMul, Int.reduceNeg, Int.reduceToNat, Int.reducePow, Nat.reduceLT, Nat.reduceAdd, Nat.reduceSub, Nat.reduceLeDiff, Nat.reduceEqDiff, Nat.reduceMul, Int.cast_ofNat_Int, true_or, true_and, and_true, List.length_cons, List.length_nil, List.length_map, n_n, n_b, n_i, n_s, n_l, n_t, se_c, se_n, se_0, ar_b, ar_s, ar_g, Bool.or_true, Bool.true_or, Bool.or_false, Bool.false_or, Bool.and_true, Bool.true_and, Bool.and_false, Bool.false_and, Bool.not_true, Bool.not_false, Bool.not_not, decide_true, decide_false, int_app, filter_tt, eq_self, Option.map_some, Option.map_none, Option.isSome_some, Option.isSome_none, Bool.false_eq_true, if_false, if_true, Nat.zero_add, Int.zero_add, Int.add_zero, Int.sub_zero, List.map_nil, List.nil_append, List.append_nil, int_rev, int_take, int_drop, int_dropLast, int_appL, e_toI, e_is_integer_distances, e_is_integer_distancesN, e_is_sequence_distances, e_is_distances, e_is_integer_facts, e_is_sequence_facts]))

/-! ### check_size -/

def sp_check_size : Spq := fun as k x => ∃ (d : D), as = [.bor d] ∧ (cIf (intIn 1 (.int 60) d) (hold (fun _ : Unit => k (.sh .non)) .mk) (hold (fun _ : Unit => x "InvalidNumber" []) .mk))
theorem e_check_size {d : D} {k : Rv → Prop} {x : Str → List D → Prop} : sp_check_size [.bor d] k x = (cIf (intIn 1 (.int 60) d) (hold (fun _ : Unit => k (.sh .non)) .mk) (hold (fun _ : Unit => x "InvalidNumber" []) .mk)) := propext ⟨fun h => (by
  obtain ⟨d2, h, q⟩ := h
  simp only [List.cons.injEq, Ar.bor.injEq, Ar.sh.injEq, Ar.bag.injEq, D.lst.injEq, D.tup.injEq, D.int.injEq, D.str.injEq, D.bl.injEq, ints_inj, strs_inj, and_true, true_and] at h
  subst h
  exact q), fun q => ⟨_, rfl, q⟩⟩

section
variable {P : Program} {w : World} {K : Fg} {mg : Str → Option Value} {base : Heap} {g : Gd}
theorem sc_check_size : FnScope ["size"] ["size"] (defScope s_check_size) := ⟨rfl, rfl, rfl, by decide +kernel, rfl, by decide +kernel, by decide +kernel⟩
theorem fn_check_size (T : Tx K mg) : ∃ fd, FnG P w K mg base 2 (He.ga K "check_size") fd ["size"] (spQ K mg g sp_check_size) ∧ FunD K "check_size" "check_size" (defArgs s_check_size) (defBody s_check_size) (defScope s_check_size) [] [] (He.ga K "check_size") fd := by
  have sc := sc_check_size
  have C_is_integer_facts : Cal P w K mg base g 1 "is_integer_facts" [] sp_is_integer_facts := cal_is_integer_facts T
  obtain ⟨t_MAX_SIZE, h_MAX_SIZE⟩ := T.c_MAX_SIZE
  obtain ⟨fd, Fn⟩ := T.f_check_size
  refine ⟨fd, fn_q g Fn sc (by decide) (fun as k x h => ?_) fun cdv A outer s H E hgd hr => ?_, Fn⟩
  · unfold sp_check_size at h; first | (split at h <;> first | rfl | exact h.elim) | (obtain ⟨_, rfl, _⟩ := h; rfl) | (obtain ⟨_, _, rfl, _⟩ := h; rfl) | (obtain ⟨_, _, _, rfl, _⟩ := h; rfl) | (obtain ⟨_, _, _, _, rfl, _⟩ := h; rfl) | (obtain ⟨_, _, _, _, _, rfl, _⟩ := h; rfl) | (obtain ⟨_, _, _, _, _, _, rfl, _⟩ := h; rfl)
  · have tk : Takes (cxOf (L2.CX P w) P w K mg base ["size"] "check_size" (defScope s_check_size) (He.ga K "check_size") cdv A outer s H E) (fun cls d _ H => E cls d H) := takes_of rfl rfl rfl rfl
    refine ⟨_, _, (qs_one (qs_if (qt_not (qt_val (QN.qe (qn_call [.bor, .bor, .bor] C_is_integer_facts (by exact hgd) (by exact hr) (by omega) (by exact rfl) (qa_cons (q_var 0) (qa_cons q_int (qa_cons (q_glob (v := V.int 60) (d := D.int 60) (by exact rfl) h_MAX_SIZE ⟨_, rfl⟩ (by exact rfl) (by decide)) qa_nil (by rfl)) (by rfl)) (by rfl)) (by decide) (by rfl) (by rfl))) (by intro _; rfl))) (qs_one (qs_raise T.e_InvalidNumber tk (by exact rfl) (by rfl) (by decide))) qs_nil)), fun as k x h => ?_⟩
    clear tk hr hgd Fn sc T
    obtain ⟨d, rfl, h⟩ := h
    walk_at "q"
    exact h
theorem cal_check_size (T : Tx K mg) : Cal P w K mg base g 2 "check_size" [] sp_check_size := by
  obtain ⟨fd, G, Fn⟩ := fn_check_size (P := P) (w := w) (base := base) (g := g) T
  exact ⟨_, fd, _, [], G, T.g_check_size, Fn.kp, Fn.bindsN fun _ _ _ _ _ _ us hl => match us, hl with | [_], _ => rfl, .nil, rfl⟩
end

local macro_rules | `(tactic| walk_at "p") => `(tactic| (repeat (rw [pkV]; try walk_at "q")))
local macro_rules | `(tactic| walk_at "len") => `(tactic| (first | omega | (simp only [List.length_map, List.length_append, List.length_reverse, List.length_take, List.length_drop, List.length_dropLast, List.length_cons, List.length_nil, List.length_set, List.length_replicate, dist_length, nxt_length, idsD_length, numbered_length, ranged_length, upto_length]; omega)))
local macro_rules | `(tactic| walk_at "q") => `(tactic| (try simp only [↓hold1, ↓hold2, ↓cIf_t, ↓cIf_f, ↓lk0, ↓lk1, ↓st0, ↓st1, ↓wp0, ↓wp1, ↓wpm, ↓wpn, ↓sD_sh, ↓sD_own, ↓sD_bor, ↓rd_d, ↓rd_p, ↓dB_b, ↓dI_i, ↓dX_x, ↓dK_i, ↓dK_s, ↓dL_l, ↓dIt_l, ↓dIt_t, ↓dIt_s, ↓shS_sh, ↓shS_own, ↓shS_bor, ↓sh1_d, ↓sh1_p, ↓shs0, ↓shs1, ↓ress0, ↓ress1, ↓bagS_b, ↓arg_bor, ↓arg_sh, ↓arg_bag, ↓args0, ↓args1, ↓ap0, ↓ap0', ↓ap1, ↓reS_sh, ↓reS_own, ↓reS_bor, ↓ret_d, ↓ret_p, ↓asS_sh, ↓asS_own, ↓asS_bor, ↓as_d, ↓as_p, ↓rv_sh, ↓rv_own, ↓da_sh, ↓da_own, ↓itS_sh, ↓itS_own, ↓itS_bor, ↓it_d, ↓it_p, ↓e_var, ↓e_sh, ↓e_own, ↓e_bor, ↓e_bag, ↓e_c, ↓e_op, ↓e_opR, ↓e_test, ↓e_and, ↓e_or, ↓e_not, ↓e_andV, ↓e_orV, ↓e_notV, ↓e_ifE, ↓e_nil, ↓e_cons, ↓e_cb, ↓e_cbR, ↓e_ofN, ↓e_lst, ↓e_tup, ↓e_call, ↓e_callS, ↓e_next, ↓e_seq, ↓e_drop, ↓e_ret, ↓e_retN, ↓e_if, ↓e_set, ↓e_setN, ↓e_raise, ↓e_name, ↓e_gnil, ↓e_gcons, ↓e_gtup, ↓e_for, ↓e_seqI, ↓e_enum, ↓rg1_i, ↓rg2_i, ↓e_rng1, ↓e_rng2, ↓e_lc, ↓e_yes, ↓e_onone, ↓e_osome, ↓e_sl, ↓e_isi, ↓e_isi2, ↓ownL_l, ↓ownA_l, ↓sO_o, ↓e_meth, ↓e_dnew, ↓e_dput, ↓e_lput, ↓e_lenSet, ↓e_chain, ↓e_asgT, ↓e_toN, ↓e_parN, ↓e_getD, ↓f_inC, ↓f_inI, ↓f_inIT, ↓f_inS, ↓pkC0, ↓pkC_sh, ↓pkC_own, ↓pkC_bor, ↓pkC_bag, ↓pkC_no, ↓f_ix0, ↓f_ix1, ↓f_ix2, ↓f_ix3, ↓f_ix4, ↓f_ixT0, ↓f_ixT1, ↓f_ixT2, ↓f_ixT3, ↓f_ixT4, ↓e_loopC, ↓e_loopN, ↓e_step, ↓e_exI, ↓e_toI, ↓f_eqW1, ↓f_eqW2, ↓f_eqW3, ↓f_sortI, ↓f_eqNN, ↓f_notScrL, ↓f_notScrT, ↓f_eqSL, ↓f_neSL, ↓f_eqSNil, ↓f_neSNil, ↓f_neNN, ↓e_lstRg1, ↓e_ifN, ↓e_ixl0, ↓e_ixl1, ↓e_ixl2, ↓e_ixl3, ↓e_ixt0, ↓e_ixt1, ↓e_ixt2, ↓e_ixt3, ↓f_inT2S, ↓f_eqNl, ↓e_isEx, ↓f_nonE, ↓f_empC, ↓f_empN, ↓e_dObj, ↓e_lkHit, ↓e_pfHit, ↓e_pfNil, ↓e_fld, ↓e_fput, ↓e_startM, ↓e_mnx, ↓e_mrt, ↓e_mex, ↓e_npN, ↓e_npD, ↓e_npB, ↓e_npP, ↓e_callM, ↓e_callR, ↓e_make, ↓e_ty_int_T, ↓e_ty_int_O, ↓e_ty_bool_T, ↓e_ty_bool_O, ↓e_ty_str_T, ↓e_ty_str_O, ↓e_ty_list_T, ↓e_ty_list_O, ↓e_ty_tuple_T, ↓e_ty_tuple_O, ↓e_ty_dict_T, ↓e_ty_dict_O, ↓e_gunl, ↓f_sortITl, ↓f_sortITt, ↓e_tryC, ↓f_sub, ↓f_mod, ↓f_div, ↓f_divW, ↓f_pow, ↓f_lt, ↓f_le, ↓f_gt, ↓f_ge, ↓f_addI, ↓f_addS, ↓f_addL, ↓f_mulI, ↓f_mulL, ↓f_eqI, ↓f_neI, ↓f_eqS, ↓f_neS, ↓f_eqB, ↓f_neB, ↓f_isN, ↓f_isNotN, ↓f_lenL, ↓f_lenT, ↓f_lenR, ↓f_lenS, ↓f_min, ↓f_max, ↓f_abs, ↓f_intI, ↓f_intB, ↓f_listL, ↓f_listT, ↓f_listS, ↓f_tupL, ↓f_slL, ↓f_slR, ↓f_slT, ↓f_app, ↓f_ext, ↓f_allM, ↓f_anyM, ↓f_eqIL, ↓f_neIL, ↓f_eqIT, ↓f_neIT, ↓f_eqNil, ↓f_neNil, ↓e_is_integer_distances, ↓e_is_integer_distancesN, ↓e_is_sequence_distances, ↓e_is_distances, ↓e_is_integer_facts, ↓e_is_sequence_facts, ↓e_check_size, ty_int_n, ty_int_b, ty_int_i, ty_int_s, ty_int_l, ty_int_t, ty_int_r, ty_int_d, ty_int_e, ty_bool_n, ty_bool_b, ty_bool_i, ty_bool_s, ty_bool_l, ty_bool_t, ty_bool_r, ty_bool_d, ty_bool_e, ty_str_n, ty_str_b, ty_str_i, ty_str_s, ty_str_l, ty_str_t, ty_str_r, ty_str_d, ty_str_e, ty_list_n, ty_list_b, ty_list_i, ty_list_s, ty_list_l, ty_list_t, ty_list_r, ty_list_d, ty_list_e, ty_tuple_n, ty_tuple_b, ty_tuple_i, ty_tuple_s, ty_tuple_l, ty_tuple_t, ty_tuple_r, ty_tuple_d, ty_tuple_e, ty_dict_n, ty_dict_b, ty_dict_i, ty_dict_s, ty_dict_l, ty_dict_t, ty_dict_r, ty_dict_d, ty_dict_e, cIf_t, cIf_f, cIf_n, isSc_n, isSc_b, isSc_i, isSc_s, ex_some, Int.reduceLT, Int.reduceLE, Int.reduceGT, Int.reduceGE, Int.reduceEq, Int.reduceNe, Int.reduceAdd, Int.reduceSub, Int.reduceMul, Int.reduceNeg, Int.reduceToNat, Int.reducePow, Nat.reduceLT, Nat.reduceAdd, Nat.reduceSub, Nat.reduceLeDiff, Nat.reduceEqDiff, Nat.reduceMul, Int.cast_ofNat_Int, true_or, true_and, and_true, List.length_cons, List.length_nil, List.length_map, n_n, n_b, n_i, n_s, n_l, n_t, se_c, se_n, se_0, ar_b, ar_s, ar_g, Bool.or_true, Bool.true_or, Bool.or_false, Bool.false_or, Bool.and_true, Bool.true_and, Bool.and_false, Bool.false_and, Bool.not_true, Bool.not_false, Bool.not_not, decide_true, decide_false, int_app, filter_tt, eq_self, Option.map_some, Option.map_none, Option.isSome_some, Option.isSome_none, Bool.false_eq_true, if_false, if_true, Nat.zero_add, Int.zero_add, Int.add_zero, Int.sub_zero, List.map_nil, List.nil_append, List.append_nil, int_rev, int_take, int_drop, int_dropLast, int_appL, e_toI, e_is_integer_distances, e_is_integer_distancesN, e_is_sequence_distances, e_is_distances, e_is_integer_facts, e_is_sequence_facts, e_check_size]))

/-! ### are_two_positions -/

def sp_are_two_positions : Spq := fun as k x => ∃ (n : Int) (a : D) (b : D), as = [.bor (.int n), .bor a, .bor b] ∧ (k (.sh (.bl (twoP n a b))))
theorem e_are_two_positions {n : Int} {a : D} {b : D} {k : Rv → Prop} {x : Str → List D → Prop} : sp_are_two_positions [.bor (.int n), .bor a, .bor b] k x = (k (.sh (.bl (twoP n a b)))) := propext ⟨fun h => (by
  obtain ⟨n2, a2, b2, h, q⟩ := h
  simp only [List.cons.injEq, Ar.bor.injEq, Ar.sh.injEq, Ar.bag.injEq, D.lst.injEq, D.tup.injEq, D.int.injEq, D.str.injEq, D.bl.injEq, ints_inj, strs_inj, and_true, true_and] at h
  (obtain ⟨rfl, rfl, rfl⟩ := h)
  exact q), fun q => ⟨_, _, _, rfl, q⟩⟩

section
variable {P : Program} {w : World} {K : Fg} {mg : Str → Option Value} {base : Heap} {g : Gd}
theorem sc_are_two_positions : FnScope ["size", "one", "other"] ["size", "one", "other"] (defScope s_are_two_positions) := ⟨rfl, rfl, rfl, by decide +kernel, rfl, by decide +kernel, by decide +kernel⟩
theorem fn_are_two_positions (T : Tx K mg) : ∃ fd, FnG P w K mg base 2 (He.ga K "are_two_positions") fd ["size", "one", "other"] (spQ K mg g sp_are_two_positions) ∧ FunD K "are_two_positions" "are_two_positions" (defArgs s_are_two_positions) (defBody s_are_two_positions) (defScope s_are_two_positions) [] [] (He.ga K "are_two_positions") fd := by
  have sc := sc_are_two_positions
  have C_is_integer_facts : Cal P w K mg base g 1 "is_integer_facts" [] sp_is_integer_facts := cal_is_integer_facts T
  obtain ⟨fd, Fn⟩ := T.f_are_two_positions
  refine ⟨fd, fn_q g Fn sc (by decide) (fun as k x h => ?_) fun cdv A outer s H E hgd hr => ?_, Fn⟩
  · unfold sp_are_two_positions at h; first | (split at h <;> first | rfl | exact h.elim) | (obtain ⟨_, rfl, _⟩ := h; rfl) | (obtain ⟨_, _, rfl, _⟩ := h; rfl) | (obtain ⟨_, _, _, rfl, _⟩ := h; rfl) | (obtain ⟨_, _, _, _, rfl, _⟩ := h; rfl) | (obtain ⟨_, _, _, _, _, rfl, _⟩ := h; rfl) | (obtain ⟨_, _, _, _, _, _, rfl, _⟩ := h; rfl)
  · have tk : Takes (cxOf (L2.CX P w) P w K mg base ["size", "one", "other"] "are_two_positions" (defScope s_are_two_positions) (He.ga K "are_two_positions") cdv A outer s H E) (fun cls d _ H => E cls d H) := takes_of rfl rfl rfl rfl
    refine ⟨_, _, (qs_one (qs_ret (q_and (QN.qe (qn_call [.bor, .bor, .bor] C_is_integer_facts (by exact hgd) (by exact hr) (by omega) (by exact rfl) (qa_cons (q_var 1) (qa_cons q_int (qa_cons (q_op op_sub o_sub (q_var 0) q_int) qa_nil (by rfl)) (by rfl)) (by rfl)) (by decide) (by rfl) (by rfl))) (q_and (QN.qe (qn_call [.bor, .bor, .bor] C_is_integer_facts (by exact hgd) (by exact hr) (by omega) (by exact rfl) (qa_cons (q_var 2) (qa_cons q_int (qa_cons (q_op op_sub o_sub (q_var 0) q_int) qa_nil (by rfl)) (by rfl)) (by rfl)) (by decide) (by rfl) (by rfl))) (q_one (q_cmp (or_neQ (by exact hr.units)) o_ne (q_var 1) (q_var 2) (by first | exact nomark _ | rfl))))))), fun as k x h => ?_⟩
    clear tk hr hgd Fn sc T
    obtain ⟨n, a, b, rfl, h⟩ := h
    unfold twoP at h
    walk_at "q"
    refine cIf_b (fun h1 => ?_) (fun h1 => ?_)
    rotate_left
    · walk_at "q"
      rw [h1] at h
      exact h
    rw [h1] at h
    obtain ⟨i, rfl, _⟩ := intIn_int h1
    walk_at "q"
    refine cIf_b (fun h2 => ?_) (fun h2 => ?_)
    rotate_left
    · walk_at "q"
      rw [h2] at h
      exact h
    rw [h2] at h
    obtain ⟨j, rfl, _⟩ := intIn_int h2
    walk_at "q"
    exact h
theorem cal_are_two_positions (T : Tx K mg) : Cal P w K mg base g 2 "are_two_positions" [] sp_are_two_positions := by
  obtain ⟨fd, G, Fn⟩ := fn_are_two_positions (P := P) (w := w) (base := base) (g := g) T
  exact ⟨_, fd, _, [], G, T.g_are_two_positions, Fn.kp, Fn.bindsN fun _ _ _ _ _ _ us hl => match us, hl with | [_, _, _], _ => rfl, .nil, rfl⟩
end

local macro_rules | `(tactic| walk_at "p") => `(tactic| (repeat (rw [pkV]; try walk_at "q")))
local macro_rules | `(tactic| walk_at "len") => `(tactic| (first | omega | (simp only [List.length_map, List.length_append, List.length_reverse, List.length_take, List.length_drop, List.length_dropLast, List.length_cons, List.length_nil, List.length_set, List.length_replicate, dist_length, nxt_length, idsD_length, numbered_length, ranged_length, upto_length]; omega)))
local macro_rules | `(tactic| walk_at "q") => `(tactic| (try simp only [↓hold1, ↓hold2, ↓cIf_t, ↓cIf_f, ↓lk0, ↓lk1, ↓st0, ↓st1, ↓wp0, ↓wp1, ↓wpm, ↓wpn, ↓sD_sh, ↓sD_own, ↓sD_bor, ↓rd_d, ↓rd_p, ↓dB_b, ↓dI_i, ↓dX_x, ↓dK_i, ↓dK_s, ↓dL_l, ↓dIt_l, ↓dIt_t, ↓dIt_s, ↓shS_sh, ↓shS_own, ↓shS_bor, ↓sh1_d, ↓sh1_p, ↓shs0, ↓shs1, ↓ress0, ↓ress1, ↓bagS_b, ↓arg_bor, ↓arg_sh, ↓arg_bag, ↓args0, ↓args1, ↓ap0, ↓ap0', ↓ap1, ↓reS_sh, ↓reS_own, ↓reS_bor, ↓ret_d, ↓ret_p, ↓asS_sh, ↓asS_own, ↓asS_bor, ↓as_d, ↓as_p, ↓rv_sh, ↓rv_own, ↓da_sh, ↓da_own, ↓itS_sh, ↓itS_own, ↓itS_bor, ↓it_d, ↓it_p, ↓e_var, ↓e_sh, ↓e_own, ↓e_bor, ↓e_bag, ↓e_c, ↓e_op, ↓e_opR, ↓e_test, ↓e_and, ↓e_or, ↓e_not, ↓e_andV, ↓e_orV, ↓e_notV, ↓e_ifE, ↓e_nil, ↓e_cons, ↓e_cb, ↓e_cbR, ↓e_ofN, ↓e_lst, ↓e_tup, ↓e_call, ↓e_callS, ↓e_next, ↓e_seq, ↓e_drop, ↓e_ret, ↓e_retN, ↓e_if, ↓e_set, ↓e_setN, ↓e_raise, ↓e_name, ↓e_gnil, ↓e_gcons, ↓e_gtup, ↓e_for, ↓e_seqI, ↓e_enum, ↓rg1_i, ↓rg2_i, ↓e_rng1, ↓e_rng2, ↓e_lc, ↓e_yes, ↓e_onone, ↓e_osome, ↓e_sl, ↓e_isi, ↓e_isi2, ↓ownL_l, ↓ownA_l, ↓sO_o, ↓e_meth, ↓e_dnew, ↓e_dput, ↓e_lput, ↓e_lenSet, ↓e_chain, ↓e_asgT, ↓e_toN, ↓e_parN, ↓e_getD, ↓f_inC, ↓f_inI, ↓f_inIT, ↓f_inS, ↓pkC0, ↓pkC_sh, ↓pkC_own, ↓pkC_bor, ↓pkC_bag, ↓pkC_no, ↓f_ix0, ↓f_ix1, ↓f_ix2, ↓f_ix3, ↓f_ix4, ↓f_ixT0, ↓f_ixT1, ↓f_ixT2, ↓f_ixT3, ↓f_ixT4, ↓e_loopC, ↓e_loopN, ↓e_step, ↓e_exI, ↓e_toI, ↓f_eqW1, ↓f_eqW2, ↓f_eqW3, ↓f_sortI, ↓f_eqNN, ↓f_notScrL, ↓f_notScrT, ↓f_eqSL, ↓f_neSL, ↓f_eqSNil, ↓f_neSNil, ↓f_neNN, ↓e_lstRg1, ↓e_ifN, ↓e_ixl0, ↓e_ixl1, ↓e_ixl2, ↓e_ixl3, ↓e_ixt0, ↓e_ixt1, ↓e_ixt2, ↓e_ixt3, ↓f_inT2S, ↓f_eqNl, ↓e_isEx, ↓f_nonE, ↓f_empC, ↓f_empN, ↓e_dObj, ↓e_lkHit, ↓e_pfHit, ↓e_pfNil, ↓e_fld, ↓e_fput, ↓e_startM, ↓e_mnx, ↓e_mrt, ↓e_mex, ↓e_npN, ↓e_npD, ↓e_npB, ↓e_npP, ↓e_callM, ↓e_callR, ↓e_make, ↓e_ty_int_T, ↓e_ty_int_O, ↓e_ty_bool_T, ↓e_ty_bool_O, ↓e_ty_str_T, ↓e_ty_str_O, ↓e_ty_list_T, ↓e_ty_list_O, ↓e_ty_tuple_T, ↓e_ty_tuple_O, ↓e_ty_dict_T, ↓e_ty_dict_O, ↓e_gunl, ↓f_sortITl, ↓f_sortITt, ↓e_tryC, ↓f_sub, ↓f_mod, ↓f_div, ↓f_divW, ↓f_pow, ↓f_lt, ↓f_le, ↓f_gt, ↓f_ge, ↓f_addI, ↓f_addS, ↓f_addL, ↓f_mulI, ↓f_mulL, ↓f_eqI, ↓f_neI, ↓f_eqS, ↓f_neS, ↓f_eqB, ↓f_neB, ↓f_isN, ↓f_isNotN, ↓f_lenL, ↓f_lenT, ↓f_lenR, ↓f_lenS, ↓f_min, ↓f_max, ↓f_abs, ↓f_intI, ↓f_intB, ↓f_listL, ↓f_listT, ↓f_listS, ↓f_tupL, ↓f_slL, ↓f_slR, ↓f_slT, ↓f_app, ↓f_ext, ↓f_allM, ↓f_anyM, ↓f_eqIL, ↓f_neIL, ↓f_eqIT, ↓f_neIT, ↓f_eqNil, ↓f_neNil, ↓e_is_integer_distances, ↓e_is_integer_distancesN, ↓e_is_sequence_distances, ↓e_is_distances, ↓e_is_integer_facts, ↓e_is_sequence_facts, ↓e_check_size, ↓e_are_two_positions, ty_int_n, ty_int_b, ty_int_i, ty_int_s, ty_int_l, ty_int_t, ty_int_r, ty_int_d, ty_int_e, ty_bool_n, ty_bool_b, ty_bool_i, ty_bool_s, ty_bool_l, ty_bool_t, ty_bool_r, ty_bool_d, ty_bool_e, ty_str_n, ty_str_b, ty_str_i, ty_str_s, ty_str_l, ty_str_t, ty_str_r, ty_str_d, ty_str_e, ty_list_n, ty_list_b, ty_list_i, ty_list_s, ty_list_l, ty_list_t, ty_list_r, ty_list_d, ty_list_e, ty_tuple_n, ty_tuple_b, ty_tuple_i, ty_tuple_s, ty_tuple_l, ty_tuple_t, ty_tuple_r, ty_tuple_d, ty_tuple_e, ty_dict_n, ty_dict_b, ty_dict_i, ty_dict_s, ty_dict_l, ty_dict_t, ty_dict_r, ty_dict_d, ty_dict_e, cIf_t, cIf_f, cIf_n, isSc_n, isSc_b, isSc_i, isSc_s, ex_some, Int.reduceLT, Int.reduceLE, Int.reduceGT, Int.reduceGE, Int.reduceEq, Int.reduceNe, Int.reduceAdd, Int.reduceSub, Int.reduceMul, Int.reduceNeg, Int.reduceToNat, Int.reducePow, Nat.reduceLT, Nat.reduceAdd, Nat.reduceSub, Nat.reduceLeDiff, Nat.reduceEqDiff, Nat.reduceMul, Int.cast_ofNat_Int, true_or, true_and, and_true, List.length_cons, List.length_nil, List.length_map, n_n, n_b, n_i, n_s, n_l, n_t, se_c, se_n, se_0, ar_b, ar_s, ar_g, Bool.or_true, Bool.true_or, Bool.or_false, Bool.false_or, Bool.and_true, Bool.true_and, Bool.and_false, Bool.false_and, Bool.not_true, Bool.not_false, Bool.not_not, decide_true, decide_false, int_app, filter_tt, eq_self, Option.map_some, Option.map_none, Option.isSome_some, Option.isSome_none, Bool.false_eq_true, if_false, if_true, Nat.zero_add, Int.zero_add, Int.add_zero, Int.sub_zero, List.map_nil, List.nil_append, List.append_nil, int_rev, int_take, int_drop, int_dropLast, int_appL, e_toI, e_is_integer_distances, e_is_integer_distancesN, e_is_sequence_distances, e_is_distances, e_is_integer_facts, e_is_sequence_facts, e_check_size, e_are_two_positions]))

/-! ### is_fact_of -/

def sp_is_fact_of : Spq := fun as k x => ∃ (n : Int) (d : D), as = [.bor (.int n), .bor d] ∧ ((∀ ns, d ≠ .scr ns) ∧ (k (.sh (.bl (isFact n d)))))
theorem e_is_fact_of {n : Int} {d : D} {k : Rv → Prop} {x : Str → List D → Prop} : sp_is_fact_of [.bor (.int n), .bor d] k x = ((∀ ns, d ≠ .scr ns) ∧ (k (.sh (.bl (isFact n d))))) := propext ⟨fun h => (by
  obtain ⟨n2, d2, h, q⟩ := h
  simp only [List.cons.injEq, Ar.bor.injEq, Ar.sh.injEq, Ar.bag.injEq, D.lst.injEq, D.tup.injEq, D.int.injEq, D.str.injEq, D.bl.injEq, ints_inj, strs_inj, and_true, true_and] at h
  (obtain ⟨rfl, rfl⟩ := h)
  exact q), fun q => ⟨_, _, rfl, q⟩⟩

section
variable {P : Program} {w : World} {K : Fg} {mg : Str → Option Value} {base : Heap} {g : Gd}
theorem sc_is_fact_of : FnScope ["size", "value"] ["size", "value"] (defScope s_is_fact_of) := ⟨rfl, rfl, rfl, by decide +kernel, rfl, by decide +kernel, by decide +kernel⟩
theorem fn_is_fact_of (T : Tx K mg) : ∃ fd, FnG P w K mg base 3 (He.ga K "is_fact_of") fd ["size", "value"] (spQ K mg g sp_is_fact_of) ∧ FunD K "is_fact_of" "is_fact_of" (defArgs s_is_fact_of) (defBody s_is_fact_of) (defScope s_is_fact_of) [] [] (He.ga K "is_fact_of") fd := by
  have sc := sc_is_fact_of
  have C_are_two_positions : Cal P w K mg base g 2 "are_two_positions" [] sp_are_two_positions := cal_are_two_positions T
  have C_is_distances : Cal P w K mg base g 2 "is_distances" [] sp_is_distances := cal_is_distances T
  have C_is_integer_facts : Cal P w K mg base g 1 "is_integer_facts" [] sp_is_integer_facts := cal_is_integer_facts T
  have C_is_sequence_facts : Cal P w K mg base g 1 "is_sequence_facts" [] sp_is_sequence_facts := cal_is_sequence_facts T
  obtain ⟨t_DIFFERENT, h_DIFFERENT⟩ := T.c_DIFFERENT
  obtain ⟨t_EQUIVALENT, h_EQUIVALENT⟩ := T.c_EQUIVALENT
  obtain ⟨t_SAME, h_SAME⟩ := T.c_SAME
  obtain ⟨t_WINDOW, h_WINDOW⟩ := T.c_WINDOW
  obtain ⟨fd, Fn⟩ := T.f_is_fact_of
  refine ⟨fd, fn_q g Fn sc (by decide) (fun as k x h => ?_) fun cdv A outer s H E hgd hr => ?_, Fn⟩
  · unfold sp_is_fact_of at h; first | (split at h <;> first | rfl | exact h.elim) | (obtain ⟨_, rfl, _⟩ := h; rfl) | (obtain ⟨_, _, rfl, _⟩ := h; rfl) | (obtain ⟨_, _, _, rfl, _⟩ := h; rfl) | (obtain ⟨_, _, _, _, rfl, _⟩ := h; rfl) | (obtain ⟨_, _, _, _, _, rfl, _⟩ := h; rfl) | (obtain ⟨_, _, _, _, _, _, rfl, _⟩ := h; rfl)
  · have tk : Takes (cxOf (L2.CX P w) P w K mg base ["size", "value"] "is_fact_of" (defScope s_is_fact_of) (He.ga K "is_fact_of") cdv A outer s H E) (fun cls d _ H => E cls d H) := takes_of rfl rfl rfl rfl
    refine ⟨_, _, (qs_cons (qs_if (QW.toT (qw_or (qt_not (qt_val (QN.qe (qn_call [.bor] C_is_sequence_facts (by exact hgd) (by exact hr) (by omega) (by exact rfl) (qa_cons (q_var 1) qa_nil (by rfl)) (by decide) (by rfl) (by rfl))) (by intro _; rfl))) (qw_or (qt_cmp op_lt o_lt (q_callB call_len c_len (by exact rfl) T.z_len (by decide +kernel) (qa_cons (q_var 1) qa_nil (by rfl)) (by decide) (by decide) (by rfl) (by rfl)) q_int (by first | exact nomark _ | rfl)) (qw_or1 (qt_not (qt_val (q_isi (T := "str") (by exact rfl) T.z_isinstance (by exact rfl) T.z_str (by decide +kernel) (by exact rfl) (q_ix ix_Q o_ix (q_var 1) q_int (by exact fun _ _ => rfl)) (by decide) (by decide) (by rfl)) (by intro _; rfl))))))) (qs_one (qs_ret q_bl)) qs_nil)
      (qs_cons (qs_if (qt_cmp (or_inQ (by exact units65 hr)) o_in (q_ix ix_Q o_ix (q_var 1) q_int (by exact fun _ _ => rfl)) (q_tup (qa_cons (q_glob (v := V.str (Str.ofString "same")) (d := D.str (Str.ofString "same")) (by exact rfl) h_SAME ⟨_, rfl⟩ (by exact rfl) (by decide)) (qa_cons (q_glob (v := V.str (Str.ofString "different")) (d := D.str (Str.ofString "different")) (by exact rfl) h_DIFFERENT ⟨_, rfl⟩ (by exact rfl) (by decide)) qa_nil (by rfl)) (by rfl))) (by first | exact nomark _ | rfl)) (qs_one (qs_ret (q_and (q_cmp (or_eqQ (by exact hr.units)) o_eq (q_callB call_len c_len (by exact rfl) T.z_len (by decide +kernel) (qa_cons (q_var 1) qa_nil (by rfl)) (by decide) (by decide) (by rfl) (by rfl)) q_int (by first | exact nomark _ | rfl)) (q_one (QN.qe (qn_call [.bor, .bor, .bor] C_are_two_positions (by exact hgd) (by exact hr) (by omega) (by exact rfl) (qa_cons (q_var 0) (qa_cons (q_ix ix_Q o_ix (q_var 1) q_int (by exact fun _ _ => rfl)) (qa_cons (q_ix ix_Q o_ix (q_var 1) q_int (by exact fun _ _ => rfl)) qa_nil (by rfl)) (by rfl)) (by rfl)) (by decide) (by rfl) (by rfl))))))) qs_nil)
      (qs_cons (qs_if (qt_cmp (or_eqQ (by exact hr.units)) o_eq (q_ix ix_Q o_ix (q_var 1) q_int (by exact fun _ _ => rfl)) (q_glob (v := V.str (Str.ofString "equivalent")) (d := D.str (Str.ofString "equivalent")) (by exact rfl) h_EQUIVALENT ⟨_, rfl⟩ (by exact rfl) (by decide)) (by first | exact nomark _ | rfl)) (qs_cons (qs_if (QW.toT (qw_or (qt_cmp (or_neQ (by exact hr.units)) o_ne (q_callB call_len c_len (by exact rfl) T.z_len (by decide +kernel) (qa_cons (q_var 1) qa_nil (by rfl)) (by decide) (by decide) (by rfl) (by rfl)) q_int (by first | exact nomark _ | rfl)) (qw_or1 (qt_not (qt_val (QN.qe (qn_call [.bor, .bor, .bor] C_are_two_positions (by exact hgd) (by exact hr) (by omega) (by exact rfl) (qa_cons (q_var 0) (qa_cons (q_ix ix_Q o_ix (q_var 1) q_int (by exact fun _ _ => rfl)) (qa_cons (q_ix ix_Q o_ix (q_var 1) q_int (by exact fun _ _ => rfl)) qa_nil (by rfl)) (by rfl)) (by rfl)) (by decide) (by rfl) (by rfl))) (by intro _; rfl)))))) (qs_one (qs_ret q_bl)) qs_nil)
      (qs_one (qs_retN (qn_call [.bor, .bor, .bor] C_is_integer_facts (by exact hgd) (by exact hr) (by omega) (by exact rfl) (qa_cons (q_ix ix_Q o_ix (q_var 1) q_int (by exact fun _ _ => rfl)) (qa_cons q_int (qa_cons (q_op op_sub o_sub (q_var 0) (q_callB (call_max2 (by exact rfl)) c_max (by exact rfl) T.z_max (by decide +kernel) (qa_cons (q_ix ix_Q o_ix (q_var 1) q_int (by exact fun _ _ => rfl)) (qa_cons (q_ix ix_Q o_ix (q_var 1) q_int (by exact fun _ _ => rfl)) qa_nil (by rfl)) (by rfl)) (by decide) (by decide) (by rfl) (by rfl))) qa_nil (by rfl)) (by rfl)) (by rfl)) (by decide) (by rfl) (by rfl))))) qs_nil)
      (qs_cons (qs_if (QW.toT (qw_or (qt_cmp (or_neQ (by exact hr.units)) o_ne (q_ix ix_Q o_ix (q_var 1) q_int (by exact fun _ _ => rfl)) (q_glob (v := V.str (Str.ofString "window")) (d := D.str (Str.ofString "window")) (by exact rfl) h_WINDOW ⟨_, rfl⟩ (by exact rfl) (by decide)) (by first | exact nomark _ | rfl)) (qw_or (qt_cmp (or_neQ (by exact hr.units)) o_ne (q_callB call_len c_len (by exact rfl) T.z_len (by decide +kernel) (qa_cons (q_var 1) qa_nil (by rfl)) (by decide) (by decide) (by rfl) (by rfl)) q_int (by first | exact nomark _ | rfl)) (qw_or1 (qt_not (qt_val (QN.qe (qn_call [.bor, .bor, .bor] C_is_integer_facts (by exact hgd) (by exact hr) (by omega) (by exact rfl) (qa_cons (q_ix ix_Q o_ix (q_var 1) q_int (by exact fun _ _ => rfl)) (qa_cons q_int (qa_cons (q_op op_sub o_sub (q_var 0) q_int) qa_nil (by rfl)) (by rfl)) (by rfl)) (by decide) (by rfl) (by rfl))) (by intro _; rfl))))))) (qs_one (qs_ret q_bl)) qs_nil)
      (qs_one (qs_ret (q_and (QN.qe (qn_call [.bor] C_is_distances (by exact hgd) (by exact hr) (by omega) (by exact rfl) (qa_cons (q_ix ix_Q o_ix (q_var 1) q_int (by exact fun _ _ => rfl)) qa_nil (by rfl)) (by decide) (by rfl) (by rfl))) (q_one (q_chain op_le o_le op_le o_le q_int (q_callB call_len c_len (by exact rfl) T.z_len (by decide +kernel) (qa_cons (q_ix ix_Q o_ix (q_var 1) q_int (by exact fun _ _ => rfl)) qa_nil (by rfl)) (by decide) (by decide) (by rfl) (by rfl)) (q_op op_sub o_sub (q_var 0) (q_ix ix_Q o_ix (q_var 1) q_int (by exact fun _ _ => rfl))) (by with_unfolding_all rfl)))))))))), fun as k x h => ?_⟩
    clear tk hr hgd Fn sc T
    obtain ⟨n, d, rfl, hs, h⟩ := h
    walk_at "q"
    unfold isFact at h
    cases d
    all_goals first | (refine cIf_r rfl ?_; walk_at "q"; exact h) | skip
    all_goals first | (exact absurd rfl (hs _)) | skip
    · rename_i xs
      replace h : k (.sh (.bl (factP n xs))) := h
      refine cIf_l rfl ?_
      walk_at "q"
      rcases xs with _ | ⟨w, _ | ⟨a, _ | ⟨b, r⟩⟩⟩
      · walk_at "q"
        exact h
      · walk_at "q"
        exact h
      · walk_at "q"
        exact h
      rcases r with _ | ⟨l, _ | ⟨l2, r⟩⟩
      · cases w
        all_goals walk_at "q"
        all_goals first | exact h | skip
        rename_i z
        simp only [factP, isWord] at h
        refine cIf_b (fun h1 => ?_) (fun h1 => ?_)
        · rw [h1] at h
          have hw : ¬ (z = Str.ofString "window") := fun e => by
            subst e
            rw [decide_eq_false wd_ws, decide_eq_false wd_wd] at h1
            cases h1
          rw [decide_eq_false hw] at h
          walk_at "q"
          simp only [Bool.false_and, Bool.true_and, Bool.or_false, Bool.false_or, Bool.and_true, Bool.and_false] at h
          exact h
        rw [h1] at h
        walk_at "q"
        refine cIf_i (fun h2 => ?_) (fun h2 => ?_)
        · subst h2
          rw [decide_eq_false (fun e => wd_we e.symm)] at h
          simp only [Bool.false_and, Bool.true_and, Bool.or_false, Bool.false_or] at h
          walk_at "q"
          exact h
        walk_at "q"
        refine cIf_i (fun h3 => ?_) (fun h3 => ?_)
        rotate_left
        · rw [decide_eq_false h3] at h
          simp only [Bool.false_and, Bool.true_and, Bool.or_false, Bool.false_or] at h
          walk_at "q"
          exact h
        rw [decide_eq_true h3] at h
        simp only [Bool.false_and, Bool.true_and, Bool.or_false, Bool.false_or] at h
        walk_at "q"
        refine cIf_b (fun h4 => ?_) (fun h4 => ?_)
        rotate_left
        · rw [h4] at h
          walk_at "q"
          exact h
        rw [h4] at h
        obtain ⟨i, rfl, _⟩ := intIn_int h4
        walk_at "q"
        refine cIf_b (fun h5 => ?_) (fun h5 => ?_)
        rotate_left
        · rw [h5] at h
          walk_at "q"
          exact h
        rw [h5] at h
        cases b
        all_goals first | (cases h5; done) | skip
        · rename_i ms
          replace h : k (.sh (.bl (inWin n i ms.length))) := h
          walk_at "q"
          refine cIf_i (fun h6 => ?_) (fun h6 => ?_)
          · rw [inWin_t (show 1 ≤ ms.length by omega)] at h
            walk_at "q"
            exact h
          · rw [inWin_f (show ¬ 1 ≤ ms.length by omega)] at h
            walk_at "q"
            exact h
        · rename_i ms
          replace h : k (.sh (.bl (inWin n i ms.length))) := h
          walk_at "q"
          refine cIf_i (fun h6 => ?_) (fun h6 => ?_)
          · rw [inWin_t (show 1 ≤ ms.length by omega)] at h
            walk_at "q"
            exact h
          · rw [inWin_f (show ¬ 1 ≤ ms.length by omega)] at h
            walk_at "q"
            exact h
        · rename_i ms
          replace h : k (.sh (.bl (inWin n i ms.length))) := by rw [← List.length_map (f := D.int)]; exact h
          walk_at "q"
          refine cIf_i (fun h6 => ?_) (fun h6 => ?_)
          · rw [inWin_t (show 1 ≤ ms.length by omega)] at h
            walk_at "q"
            exact h
          · rw [inWin_f (show ¬ 1 ≤ ms.length by omega)] at h
            walk_at "q"
            exact h
      · cases w
        all_goals walk_at "q"
        all_goals first | exact h | skip
        rename_i z
        simp only [factP, isWord] at h
        refine cIf_b (fun h1 => ?_) (fun h1 => ?_)
        · have hw : ¬ (z = Str.ofString "equivalent") := fun e => by
            subst e
            rw [decide_eq_false wd_es, decide_eq_false wd_ed] at h1
            cases h1
          rw [decide_eq_false hw] at h
          walk_at "q"
          exact h
        walk_at "q"
        refine cIf_i (fun h2 => ?_) (fun h2 => ?_)
        rotate_left
        · rw [decide_eq_false h2] at h
          walk_at "q"
          refine cIf_b (fun h3 => ?_) (fun h3 => ?_)
          · walk_at "q"
            exact h
          · walk_at "q"
            exact h
        rw [decide_eq_true h2] at h
        simp only [Bool.false_and, Bool.true_and, Bool.or_false, Bool.false_or] at h
        walk_at "q"
        refine cIf_b (fun h4 => ?_) (fun h4 => ?_)
        rotate_left
        · rw [h4] at h
          walk_at "q"
          exact h
        rw [h4] at h
        have h6 := h4
        unfold twoP at h6
        simp only [Bool.and_eq_true] at h6
        obtain ⟨i, rfl, _⟩ := intIn_int h6.1
        obtain ⟨j, rfl, _⟩ := intIn_int h6.2.1
        walk_at "q"
        rw [show (if j > i then j else i) = max i j by omega]
        exact h
      · refine cIf_r (decide_eq_false (by first | omega | (simp only [List.length_cons]; omega))) ?_
        cases w
        all_goals walk_at "q"
        all_goals first | exact h | skip
        refine cIf_b (fun h1 => ?_) (fun h1 => ?_)
        · walk_at "q"
          refine cIf_r (decide_eq_false (by first | omega | (simp only [List.length_cons]; omega))) ?_
          walk_at "q"
          exact h
        walk_at "q"
        refine cIf_b (fun h1 => ?_) (fun h1 => ?_)
        · walk_at "q"
          refine cIf_r (by rw [decide_eq_false (by first | omega | (simp only [List.length_cons]; omega))]) ?_
          walk_at "q"
          exact h
        walk_at "q"
        refine cIf_b (fun h1 => ?_) (fun h1 => ?_)
        · walk_at "q"
          refine cIf_r (decide_eq_false (by first | omega | (simp only [List.length_cons]; omega))) ?_
          walk_at "q"
          exact h
        · walk_at "q"
          exact h
    · rename_i xs
      replace h : k (.sh (.bl (factP n xs))) := h
      refine cIf_l rfl ?_
      walk_at "q"
      rcases xs with _ | ⟨w, _ | ⟨a, _ | ⟨b, r⟩⟩⟩
      · walk_at "q"
        exact h
      · walk_at "q"
        exact h
      · walk_at "q"
        exact h
      rcases r with _ | ⟨l, _ | ⟨l2, r⟩⟩
      · cases w
        all_goals walk_at "q"
        all_goals first | exact h | skip
        rename_i z
        simp only [factP, isWord] at h
        refine cIf_b (fun h1 => ?_) (fun h1 => ?_)
        · rw [h1] at h
          have hw : ¬ (z = Str.ofString "window") := fun e => by
            subst e
            rw [decide_eq_false wd_ws, decide_eq_false wd_wd] at h1
            cases h1
          rw [decide_eq_false hw] at h
          walk_at "q"
          simp only [Bool.false_and, Bool.true_and, Bool.or_false, Bool.false_or, Bool.and_true, Bool.and_false] at h
          exact h
        rw [h1] at h
        walk_at "q"
        refine cIf_i (fun h2 => ?_) (fun h2 => ?_)
        · subst h2
          rw [decide_eq_false (fun e => wd_we e.symm)] at h
          simp only [Bool.false_and, Bool.true_and, Bool.or_false, Bool.false_or] at h
          walk_at "q"
          exact h
        walk_at "q"
        refine cIf_i (fun h3 => ?_) (fun h3 => ?_)
        rotate_left
        · rw [decide_eq_false h3] at h
          simp only [Bool.false_and, Bool.true_and, Bool.or_false, Bool.false_or] at h
          walk_at "q"
          exact h
        rw [decide_eq_true h3] at h
        simp only [Bool.false_and, Bool.true_and, Bool.or_false, Bool.false_or] at h
        walk_at "q"
        refine cIf_b (fun h4 => ?_) (fun h4 => ?_)
        rotate_left
        · rw [h4] at h
          walk_at "q"
          exact h
        rw [h4] at h
        obtain ⟨i, rfl, _⟩ := intIn_int h4
        walk_at "q"
        refine cIf_b (fun h5 => ?_) (fun h5 => ?_)
        rotate_left
        · rw [h5] at h
          walk_at "q"
          exact h
        rw [h5] at h
        cases b
        all_goals first | (cases h5; done) | skip
        · rename_i ms
          replace h : k (.sh (.bl (inWin n i ms.length))) := h
          walk_at "q"
          refine cIf_i (fun h6 => ?_) (fun h6 => ?_)
          · rw [inWin_t (show 1 ≤ ms.length by omega)] at h
            walk_at "q"
            exact h
          · rw [inWin_f (show ¬ 1 ≤ ms.length by omega)] at h
            walk_at "q"
            exact h
        · rename_i ms
          replace h : k (.sh (.bl (inWin n i ms.length))) := h
          walk_at "q"
          refine cIf_i (fun h6 => ?_) (fun h6 => ?_)
          · rw [inWin_t (show 1 ≤ ms.length by omega)] at h
            walk_at "q"
            exact h
          · rw [inWin_f (show ¬ 1 ≤ ms.length by omega)] at h
            walk_at "q"
            exact h
        · rename_i ms
          replace h : k (.sh (.bl (inWin n i ms.length))) := by rw [← List.length_map (f := D.int)]; exact h
          walk_at "q"
          refine cIf_i (fun h6 => ?_) (fun h6 => ?_)
          · rw [inWin_t (show 1 ≤ ms.length by omega)] at h
            walk_at "q"
            exact h
          · rw [inWin_f (show ¬ 1 ≤ ms.length by omega)] at h
            walk_at "q"
            exact h
      · cases w
        all_goals walk_at "q"
        all_goals first | exact h | skip
        rename_i z
        simp only [factP, isWord] at h
        refine cIf_b (fun h1 => ?_) (fun h1 => ?_)
        · have hw : ¬ (z = Str.ofString "equivalent") := fun e => by
            subst e
            rw [decide_eq_false wd_es, decide_eq_false wd_ed] at h1
            cases h1
          rw [decide_eq_false hw] at h
          walk_at "q"
          exact h
        walk_at "q"
        refine cIf_i (fun h2 => ?_) (fun h2 => ?_)
        rotate_left
        · rw [decide_eq_false h2] at h
          walk_at "q"
          refine cIf_b (fun h3 => ?_) (fun h3 => ?_)
          · walk_at "q"
            exact h
          · walk_at "q"
            exact h
        rw [decide_eq_true h2] at h
        simp only [Bool.false_and, Bool.true_and, Bool.or_false, Bool.false_or] at h
        walk_at "q"
        refine cIf_b (fun h4 => ?_) (fun h4 => ?_)
        rotate_left
        · rw [h4] at h
          walk_at "q"
          exact h
        rw [h4] at h
        have h6 := h4
        unfold twoP at h6
        simp only [Bool.and_eq_true] at h6
        obtain ⟨i, rfl, _⟩ := intIn_int h6.1
        obtain ⟨j, rfl, _⟩ := intIn_int h6.2.1
        walk_at "q"
        rw [show (if j > i then j else i) = max i j by omega]
        exact h
      · refine cIf_r (decide_eq_false (by first | omega | (simp only [List.length_cons]; omega))) ?_
        cases w
        all_goals walk_at "q"
        all_goals first | exact h | skip
        refine cIf_b (fun h1 => ?_) (fun h1 => ?_)
        · walk_at "q"
          refine cIf_r (decide_eq_false (by first | omega | (simp only [List.length_cons]; omega))) ?_
          walk_at "q"
          exact h
        walk_at "q"
        refine cIf_b (fun h1 => ?_) (fun h1 => ?_)
        · walk_at "q"
          refine cIf_r (by rw [decide_eq_false (by first | omega | (simp only [List.length_cons]; omega))]) ?_
          walk_at "q"
          exact h
        walk_at "q"
        refine cIf_b (fun h1 => ?_) (fun h1 => ?_)
        · walk_at "q"
          refine cIf_r (decide_eq_false (by first | omega | (simp only [List.length_cons]; omega))) ?_
          walk_at "q"
          exact h
        · walk_at "q"
          exact h
theorem cal_is_fact_of (T : Tx K mg) : Cal P w K mg base g 3 "is_fact_of" [] sp_is_fact_of := by
  obtain ⟨fd, G, Fn⟩ := fn_is_fact_of (P := P) (w := w) (base := base) (g := g) T
  exact ⟨_, fd, _, [], G, T.g_is_fact_of, Fn.kp, Fn.bindsN fun _ _ _ _ _ _ us hl => match us, hl with | [_, _], _ => rfl, .nil, rfl⟩
end

local macro_rules | `(tactic| walk_at "p") => `(tactic| (repeat (rw [pkV]; try walk_at "q")))
local macro_rules | `(tactic| walk_at "len") => `(tactic| (first | omega | (simp only [List.length_map, List.length_append, List.length_reverse, List.length_take, List.length_drop, List.length_dropLast, List.length_cons, List.length_nil, List.length_set, List.length_replicate, dist_length, nxt_length, idsD_length, numbered_length, ranged_length, upto_length]; omega)))
local macro_rules | `(tactic| walk_at "q") => `(tactic| (try simp only [↓hold1, ↓hold2, ↓cIf_t, ↓cIf_f, ↓lk0, ↓lk1, ↓st0, ↓st1, ↓wp0, ↓wp1, ↓wpm, ↓wpn, ↓sD_sh, ↓sD_own, ↓sD_bor, ↓rd_d, ↓rd_p, ↓dB_b, ↓dI_i, ↓dX_x, ↓dK_i, ↓dK_s, ↓dL_l, ↓dIt_l, ↓dIt_t, ↓dIt_s, ↓shS_sh, ↓shS_own, ↓shS_bor, ↓sh1_d, ↓sh1_p, ↓shs0, ↓shs1, ↓ress0, ↓ress1, ↓bagS_b, ↓arg_bor, ↓arg_sh, ↓arg_bag, ↓args0, ↓args1, ↓ap0, ↓ap0', ↓ap1, ↓reS_sh, ↓reS_own, ↓reS_bor, ↓ret_d, ↓ret_p, ↓asS_sh, ↓asS_own, ↓asS_bor, ↓as_d, ↓as_p, ↓rv_sh, ↓rv_own, ↓da_sh, ↓da_own, ↓itS_sh, ↓itS_own, ↓itS_bor, ↓it_d, ↓it_p, ↓e_var, ↓e_sh, ↓e_own, ↓e_bor, ↓e_bag, ↓e_c, ↓e_op, ↓e_opR, ↓e_test, ↓e_and, ↓e_or, ↓e_not, ↓e_andV, ↓e_orV, ↓e_notV, ↓e_ifE, ↓e_nil, ↓e_cons, ↓e_cb, ↓e_cbR, ↓e_ofN, ↓e_lst, ↓e_tup, ↓e_call, ↓e_callS, ↓e_next, ↓e_seq, ↓e_drop, ↓e_ret, ↓e_retN, ↓e_if, ↓e_set, ↓e_setN, ↓e_raise, ↓e_name, ↓e_gnil, ↓e_gcons, ↓e_gtup, ↓e_for, ↓e_seqI, ↓e_enum, ↓rg1_i, ↓rg2_i, ↓e_rng1, ↓e_rng2, ↓e_lc, ↓e_yes, ↓e_onone, ↓e_osome, ↓e_sl, ↓e_isi, ↓e_isi2, ↓ownL_l, ↓ownA_l, ↓sO_o, ↓e_meth, ↓e_dnew, ↓e_dput, ↓e_lput, ↓e_lenSet, ↓e_chain, ↓e_asgT, ↓e_toN, ↓e_parN, ↓e_getD, ↓f_inC, ↓f_inI, ↓f_inIT, ↓f_inS, ↓pkC0, ↓pkC_sh, ↓pkC_own, ↓pkC_bor, ↓pkC_bag, ↓pkC_no, ↓f_ix0, ↓f_ix1, ↓f_ix2, ↓f_ix3, ↓f_ix4, ↓f_ixT0, ↓f_ixT1, ↓f_ixT2, ↓f_ixT3, ↓f_ixT4, ↓e_loopC, ↓e_loopN, ↓e_step, ↓e_exI, ↓e_toI, ↓f_eqW1, ↓f_eqW2, ↓f_eqW3, ↓f_sortI, ↓f_eqNN, ↓f_notScrL, ↓f_notScrT, ↓f_eqSL, ↓f_neSL, ↓f_eqSNil, ↓f_neSNil, ↓f_neNN, ↓e_lstRg1, ↓e_ifN, ↓e_ixl0, ↓e_ixl1, ↓e_ixl2, ↓e_ixl3, ↓e_ixt0, ↓e_ixt1, ↓e_ixt2, ↓e_ixt3, ↓f_inT2S, ↓f_eqNl, ↓e_isEx, ↓f_nonE, ↓f_empC, ↓f_empN, ↓e_dObj, ↓e_lkHit, ↓e_pfHit, ↓e_pfNil, ↓e_fld, ↓e_fput, ↓e_startM, ↓e_mnx, ↓e_mrt, ↓e_mex, ↓e_npN, ↓e_npD, ↓e_npB, ↓e_npP, ↓e_callM, ↓e_callR, ↓e_make, ↓e_ty_int_T, ↓e_ty_int_O, ↓e_ty_bool_T, ↓e_ty_bool_O, ↓e_ty_str_T, ↓e_ty_str_O, ↓e_ty_list_T, ↓e_ty_list_O, ↓e_ty_tuple_T, ↓e_ty_tuple_O, ↓e_ty_dict_T, ↓e_ty_dict_O, ↓e_gunl, ↓f_sortITl, ↓f_sortITt, ↓e_tryC, ↓f_sub, ↓f_mod, ↓f_div, ↓f_divW, ↓f_pow, ↓f_lt, ↓f_le, ↓f_gt, ↓f_ge, ↓f_addI, ↓f_addS, ↓f_addL, ↓f_mulI, ↓f_mulL, ↓f_eqI, ↓f_neI, ↓f_eqS, ↓f_neS, ↓f_eqB, ↓f_neB, ↓f_isN, ↓f_isNotN, ↓f_lenL, ↓f_lenT, ↓f_lenR, ↓f_lenS, ↓f_min, ↓f_max, ↓f_abs, ↓f_intI, ↓f_intB, ↓f_listL, ↓f_listT, ↓f_listS, ↓f_tupL, ↓f_slL, ↓f_slR, ↓f_slT, ↓f_app, ↓f_ext, ↓f_allM, ↓f_anyM, ↓f_eqIL, ↓f_neIL, ↓f_eqIT, ↓f_neIT, ↓f_eqNil, ↓f_neNil, ↓e_is_integer_distances, ↓e_is_integer_distancesN, ↓e_is_sequence_distances, ↓e_is_distances, ↓e_is_integer_facts, ↓e_is_sequence_facts, ↓e_check_size, ↓e_are_two_positions, ↓e_is_fact_of, ty_int_n, ty_int_b, ty_int_i, ty_int_s, ty_int_l, ty_int_t, ty_int_r, ty_int_d, ty_int_e, ty_bool_n, ty_bool_b, ty_bool_i, ty_bool_s, ty_bool_l, ty_bool_t, ty_bool_r, ty_bool_d, ty_bool_e, ty_str_n, ty_str_b, ty_str_i, ty_str_s, ty_str_l, ty_str_t, ty_str_r, ty_str_d, ty_str_e, ty_list_n, ty_list_b, ty_list_i, ty_list_s, ty_list_l, ty_list_t, ty_list_r, ty_list_d, ty_list_e, ty_tuple_n, ty_tuple_b, ty_tuple_i, ty_tuple_s, ty_tuple_l, ty_tuple_t, ty_tuple_r, ty_tuple_d, ty_tuple_e, ty_dict_n, ty_dict_b, ty_dict_i, ty_dict_s, ty_dict_l, ty_dict_t, ty_dict_r, ty_dict_d, ty_dict_e, cIf_t, cIf_f, cIf_n, isSc_n, isSc_b, isSc_i, isSc_s, ex_some, Int.reduceLT, Int.reduceLE, Int.reduceGT, Int.reduceGE, Int.reduceEq, Int.reduceNe, Int.reduceAdd, Int.reduceSub, Int.reduceMul, Int.reduceNeg, Int.reduceToNat, Int.reducePow, Nat.reduceLT, Nat.reduceAdd, Nat.reduceSub, Nat.reduceLeDiff, Nat.reduceEqDiff, Nat.reduceMul, Int.cast_ofNat_Int, true_or, true_and, and_true, List.length_cons, List.length_nil, List.length_map, n_n, n_b, n_i, n_s, n_l, n_t, se_c, se_n, se_0, ar_b, ar_s, ar_g, Bool.or_true, Bool.true_or, Bool.or_false, Bool.false_or, Bool.and_true, Bool.true_and, Bool.and_false, Bool.false_and, Bool.not_true, Bool.not_false, Bool.not_not, decide_true, decide_false, int_app, filter_tt, eq_self, Option.map_some, Option.map_none, Option.isSome_some, Option.isSome_none, Bool.false_eq_true, if_false, if_true, Nat.zero_add, Int.zero_add, Int.add_zero, Int.sub_zero, List.map_nil, List.nil_append, List.append_nil, int_rev, int_take, int_drop, int_dropLast, int_appL, e_toI, e_is_integer_distances, e_is_integer_distancesN, e_is_sequence_distances, e_is_distances, e_is_integer_facts, e_is_sequence_facts, e_check_size, e_are_two_positions, e_is_fact_of]))

/-! ### checked_facts -/
def sp_checked_facts : Spq := fun as k _ => ∃ (n : Nat) (fc : List Fc) (ds : List D) (d : D), as = [.bor (.int n), .bor d] ∧ ((d = .lst ds ∨ d = .tup ds) ∧ FcsAt fc ds ∧ (∀ f ∈ fc, FcOk n f) ∧ 1 ≤ n ∧ n ≤ 60 ∧ ds.length ≤ 40) ∧ k (.own (.lst ds))
section
variable {P : Program} {w : World} {K : Fg} {mg : Str → Option Value} {base : Heap} {g : Gd}
theorem sc_checked_facts : FnScope ["size", "facts", "fact"] ["size", "facts"] (defScope s_checked_facts) := ⟨rfl, rfl, rfl, by decide +kernel, rfl, by decide +kernel, by decide +kernel⟩
theorem fn_checked_facts (T : Tx K mg) : ∃ fd, FnG P w K mg base 4 (He.ga K "checked_facts") fd ["size", "facts"] (spQ K mg g sp_checked_facts) ∧ FunD K "checked_facts" "checked_facts" (defArgs s_checked_facts) (defBody s_checked_facts) (defScope s_checked_facts) [] [] (He.ga K "checked_facts") fd := by
  have sc := sc_checked_facts
  have C_check_size : Cal P w K mg base g 2 "check_size" [] sp_check_size := cal_check_size T
  have C_is_fact_of : Cal P w K mg base g 3 "is_fact_of" [] sp_is_fact_of := cal_is_fact_of T
  have C_is_sequence_facts : Cal P w K mg base g 1 "is_sequence_facts" [] sp_is_sequence_facts := cal_is_sequence_facts T
  obtain ⟨t_MAX_FACTS, h_MAX_FACTS⟩ := T.c_MAX_FACTS
  obtain ⟨fd, Fn⟩ := T.f_checked_facts
  refine ⟨fd, fn_q g Fn sc (by decide) (fun as k x h => ?_) fun cdv A outer s H E hgd hr => ?_, Fn⟩
  · unfold sp_checked_facts at h; first | (split at h <;> first | rfl | exact h.elim) | (obtain ⟨_, rfl, _⟩ := h; rfl) | (obtain ⟨_, _, rfl, _⟩ := h; rfl) | (obtain ⟨_, _, _, rfl, _⟩ := h; rfl) | (obtain ⟨_, _, _, _, rfl, _⟩ := h; rfl) | (obtain ⟨_, _, _, _, _, rfl, _⟩ := h; rfl) | (obtain ⟨_, _, _, _, _, _, rfl, _⟩ := h; rfl)
  · have tk : Takes (cxOf (L2.CX P w) P w K mg base ["size", "facts", "fact"] "checked_facts" (defScope s_checked_facts) (He.ga K "checked_facts") cdv A outer s H E) (fun cls d _ H => E cls d H) := takes_of rfl rfl rfl rfl
    refine ⟨_, _, (qs_cons (qs_expr (QN.qe (qn_callS [.bor] C_check_size (by exact hgd) (by exact hr) (by omega) tk (by exact rfl) (qa_cons (q_var 0) qa_nil (by rfl)) (by decide) (by rfl) (by rfl))) (by rfl))
      (qs_cons (qs_if (QW.toT (qw_or (qt_not (qt_val (QN.qe (qn_call [.bor] C_is_sequence_facts (by exact hgd) (by exact hr) (by omega) (by exact rfl) (qa_cons (q_var 1) qa_nil (by rfl)) (by decide) (by rfl) (by rfl))) (by intro _; rfl))) (qw_or1 (qt_cmp op_gt o_gt (q_callB call_len c_len (by exact rfl) T.z_len (by decide +kernel) (qa_cons (q_var 1) qa_nil (by rfl)) (by decide) (by decide) (by rfl) (by rfl)) (q_glob (v := V.int 40) (d := D.int 40) (by exact rfl) h_MAX_FACTS ⟨_, rfl⟩ (by exact rfl) (by decide)) (by first | exact nomark _ | rfl))))) (qs_one (qs_raise T.e_InvalidFacts tk (by exact rfl) (by rfl) (by decide))) qs_nil)
      (qs_cons (qs_if (qt_not (qt_val (q_callB (cr_all rfl) c_all (by exact rfl) T.z_all (by decide +kernel) (qa_cons (QN.qe (qn_lcB [("fact", 2)] (by exact rfl) (by exact sc.nd) (qi_seq (q_var 1)) (blkOk_by (by kernel_rfl)) (fun _ _ _ _ _ => (qg_name (i := 2) (by exact sc.nd) (by exact rfl) (by first | exact Or.inl rfl | exact Or.inr rfl) (by decide) (by first | exact .inl rfl | exact .inr rfl | assumption))) (fun _ _ _ _ _ => qts_nil) (fun _ _ _ _ _ => (QN.qe (qn_call [.bor, .bor] C_is_fact_of (by exact hgd) (by exact hr) (by omega) (by exact rfl) (qa_cons (q_var 0) (qa_cons (q_var 2) qa_nil (by rfl)) (by rfl)) (by decide) (by rfl) (by rfl)))) (by intro _; rfl) (by intros; rfl) (by intros; rfl) (by intros; rfl))) qa_nil (by rfl)) (by decide) (by decide) (by rfl) (by rfl)) (by intro _; rfl))) (qs_one (qs_raise T.e_InvalidFacts tk (by exact rfl) (by rfl) (by decide))) qs_nil)
      (qs_one (qs_retN (qn_ty call_list_of c_list (by exact rfl) T.z_list (by decide +kernel) (qa_cons (q_var 1) qa_nil (by rfl)) (by decide) (by decide) (by rfl) (by rfl))))))), fun as k x h => ?_⟩
    clear tk hr hgd Fn sc T
    obtain ⟨n, fc, ds, d, rfl, ⟨hd, hfc, hok, n1, n2, hl⟩, h⟩ := h
    rcases hd with rfl | rfl
    · walk_at "q"
      refine cIf_l (intIn_of (by omega) (by omega)) ?_
      walk_at "q"
      refine cIf_l rfl ?_
      walk_at "q"
      refine cIf_r (decide_eq_false (by omega)) ?_
      walk_at "q"
      refine comp_pure (fun _ => true) (fun _ => .bl true) (fun m f acc X hf hl2 hX => ?_) ?_
      · obtain ⟨g, e1, e2⟩ := hfc.at hf
        have hm : m < ds.length := (List.getElem?_eq_some_iff.mp hf).1
        unfold compStep
        walk_at "q"
        refine ⟨fun ns => by rcases e2 with e2 | e2 <;> (intro z; cases z), by omega, ?_⟩
        rw [fact_is n2 e2 (hok g (List.mem_of_getElem? e1))]
        rw [if_pos rfl] at hX
        exact hX
      rw [show (ds.filter fun _ => true).map (fun _ => D.bl true) = ds.map (fun d => D.bl ((fun _ => true) d)) by rw [List.filter_eq_self.mpr (fun _ _ => rfl)]]
      walk_at "q"
      refine cIf_l (by simp) ?_
      walk_at "q"
      exact h
    · walk_at "q"
      refine cIf_l (intIn_of (by omega) (by omega)) ?_
      walk_at "q"
      refine cIf_l rfl ?_
      walk_at "q"
      refine cIf_r (decide_eq_false (by omega)) ?_
      walk_at "q"
      refine comp_pure (fun _ => true) (fun _ => .bl true) (fun m f acc X hf hl2 hX => ?_) ?_
      · obtain ⟨g, e1, e2⟩ := hfc.at hf
        have hm : m < ds.length := (List.getElem?_eq_some_iff.mp hf).1
        unfold compStep
        walk_at "q"
        refine ⟨fun ns => by rcases e2 with e2 | e2 <;> (intro z; cases z), by omega, ?_⟩
        rw [fact_is n2 e2 (hok g (List.mem_of_getElem? e1))]
        rw [if_pos rfl] at hX
        exact hX
      rw [show (ds.filter fun _ => true).map (fun _ => D.bl true) = ds.map (fun d => D.bl ((fun _ => true) d)) by rw [List.filter_eq_self.mpr (fun _ _ => rfl)]]
      walk_at "q"
      refine cIf_l (by simp) ?_
      walk_at "q"
      exact h
theorem cal_checked_facts (T : Tx K mg) : Cal P w K mg base g 4 "checked_facts" [] sp_checked_facts := by
  obtain ⟨fd, G, Fn⟩ := fn_checked_facts (P := P) (w := w) (base := base) (g := g) T
  exact ⟨_, fd, _, [], G, T.g_checked_facts, Fn.kp, Fn.bindsN fun _ _ _ _ _ _ us hl => match us, hl with | [_, _], _ => rfl, .nil, rfl⟩
end

/-! ### check_positions -/

def sp_check_positions : Spq := fun as k x => ∃ (n : Int) (i : Int) (j : Int), as = [.bor (.int n), .bor (.int i), .bor (.int j)] ∧ ((0 ≤ i ∧ i < n ∧ 0 ≤ j ∧ j < n) ∧ k (.sh .non))
theorem e_check_positions {n : Int} {i : Int} {j : Int} {k : Rv → Prop} {x : Str → List D → Prop} : sp_check_positions [.bor (.int n), .bor (.int i), .bor (.int j)] k x = ((0 ≤ i ∧ i < n ∧ 0 ≤ j ∧ j < n) ∧ k (.sh .non)) := propext ⟨fun h => (by
  obtain ⟨n2, i2, j2, h, q⟩ := h
  simp only [List.cons.injEq, Ar.bor.injEq, Ar.sh.injEq, Ar.bag.injEq, D.lst.injEq, D.tup.injEq, D.int.injEq, D.str.injEq, D.bl.injEq, ints_inj, strs_inj, and_true, true_and] at h
  (obtain ⟨rfl, rfl, rfl⟩ := h)
  exact q), fun q => ⟨_, _, _, rfl, q⟩⟩

section
variable {P : Program} {w : World} {K : Fg} {mg : Str → Option Value} {base : Heap} {g : Gd}
theorem sc_check_positions : FnScope ["size", "one", "other", "position"] ["size", "one", "other"] (defScope s_check_positions) := ⟨rfl, rfl, rfl, by decide +kernel, rfl, by decide +kernel, by decide +kernel⟩
theorem fn_check_positions (T : Tx K mg) : ∃ fd, FnG P w K mg base 2 (He.ga K "check_positions") fd ["size", "one", "other"] (spQ K mg g sp_check_positions) ∧ FunD K "check_positions" "check_positions" (defArgs s_check_positions) (defBody s_check_positions) (defScope s_check_positions) [] [] (He.ga K "check_positions") fd := by
  have sc := sc_check_positions
  have C_is_integer_facts : Cal P w K mg base g 1 "is_integer_facts" [] sp_is_integer_facts := cal_is_integer_facts T
  obtain ⟨fd, Fn⟩ := T.f_check_positions
  refine ⟨fd, fn_q g Fn sc (by decide) (fun as k x h => ?_) fun cdv A outer s H E hgd hr => ?_, Fn⟩
  · unfold sp_check_positions at h; first | (split at h <;> first | rfl | exact h.elim) | (obtain ⟨_, rfl, _⟩ := h; rfl) | (obtain ⟨_, _, rfl, _⟩ := h; rfl) | (obtain ⟨_, _, _, rfl, _⟩ := h; rfl) | (obtain ⟨_, _, _, _, rfl, _⟩ := h; rfl) | (obtain ⟨_, _, _, _, _, rfl, _⟩ := h; rfl) | (obtain ⟨_, _, _, _, _, _, rfl, _⟩ := h; rfl)
  · have tk : Takes (cxOf (L2.CX P w) P w K mg base ["size", "one", "other", "position"] "check_positions" (defScope s_check_positions) (He.ga K "check_positions") cdv A outer s H E) (fun cls d _ H => E cls d H) := takes_of rfl rfl rfl rfl
    refine ⟨_, _, (qs_one (qs_for [3] (qi_seq (q_tup (qa_cons (q_var 1) (qa_cons (q_var 2) qa_nil (by rfl)) (by rfl)))) (qg_name (i := 3) (by exact sc.nd) (by exact rfl) (by first | exact Or.inl rfl | exact Or.inr rfl) (by decide) (by first | exact .inl rfl | exact .inr rfl | assumption))
      (qs_one (qs_if (qt_not (qt_val (QN.qe (qn_call [.bor, .bor, .bor] C_is_integer_facts (by exact hgd) (by exact hr) (by omega) (by exact rfl) (qa_cons (q_var 3) (qa_cons q_int (qa_cons (q_op op_sub o_sub (q_var 0) q_int) qa_nil (by rfl)) (by rfl)) (by rfl)) (by decide) (by rfl) (by rfl))) (by intro _; rfl))) (qs_one (qs_raise T.e_InvalidPosition tk (by exact rfl) (by rfl) (by decide))) qs_nil)) (passes_of (by exact rfl)) (by rfl) (by intro _; rfl))), fun as k x h => ?_⟩
    clear tk hr hgd Fn sc T
    obtain ⟨n, i, j, rfl, ⟨i0, i1, j0, j1⟩, h⟩ := h
    walk_at "q"
    refine cIf_l (intIn_of (by omega) (by omega)) ?_
    walk_at "q"
    refine cIf_l (intIn_of (by omega) (by omega)) ?_
    walk_at "q"
    exact h
theorem cal_check_positions (T : Tx K mg) : Cal P w K mg base g 2 "check_positions" [] sp_check_positions := by
  obtain ⟨fd, G, Fn⟩ := fn_check_positions (P := P) (w := w) (base := base) (g := g) T
  exact ⟨_, fd, _, [], G, T.g_check_positions, Fn.kp, Fn.bindsN fun _ _ _ _ _ _ us hl => match us, hl with | [_, _, _], _ => rfl, .nil, rfl⟩
end

local macro_rules | `(tactic| walk_at "p") => `(tactic| (repeat (rw [pkV]; try walk_at "q")))
local macro_rules | `(tactic| walk_at "len") => `(tactic| (first | omega | (simp only [List.length_map, List.length_append, List.length_reverse, List.length_take, List.length_drop, List.length_dropLast, List.length_cons, List.length_nil, List.length_set, List.length_replicate, dist_length, nxt_length, idsD_length, numbered_length, ranged_length, upto_length]; omega)))
local macro_rules | `(tactic| walk_at "q") => `(tactic| (try simp only [↓hold1, ↓hold2, ↓cIf_t, ↓cIf_f, ↓lk0, ↓lk1, ↓st0, ↓st1, ↓wp0, ↓wp1, ↓wpm, ↓wpn, ↓sD_sh, ↓sD_own, ↓sD_bor, ↓rd_d, ↓rd_p, ↓dB_b, ↓dI_i, ↓dX_x, ↓dK_i, ↓dK_s, ↓dL_l, ↓dIt_l, ↓dIt_t, ↓dIt_s, ↓shS_sh, ↓shS_own, ↓shS_bor, ↓sh1_d, ↓sh1_p, ↓shs0, ↓shs1, ↓ress0, ↓ress1, ↓bagS_b, ↓arg_bor, ↓arg_sh, ↓arg_bag, ↓args0, ↓args1, ↓ap0, ↓ap0', ↓ap1, ↓reS_sh, ↓reS_own, ↓reS_bor, ↓ret_d, ↓ret_p, ↓asS_sh, ↓asS_own, ↓asS_bor, ↓as_d, ↓as_p, ↓rv_sh, ↓rv_own, ↓da_sh, ↓da_own, ↓itS_sh, ↓itS_own, ↓itS_bor, ↓it_d, ↓it_p, ↓e_var, ↓e_sh, ↓e_own, ↓e_bor, ↓e_bag, ↓e_c, ↓e_op, ↓e_opR, ↓e_test, ↓e_and, ↓e_or, ↓e_not, ↓e_andV, ↓e_orV, ↓e_notV, ↓e_ifE, ↓e_nil, ↓e_cons, ↓e_cb, ↓e_cbR, ↓e_ofN, ↓e_lst, ↓e_tup, ↓e_call, ↓e_callS, ↓e_next, ↓e_seq, ↓e_drop, ↓e_ret, ↓e_retN, ↓e_if, ↓e_set, ↓e_setN, ↓e_raise, ↓e_name, ↓e_gnil, ↓e_gcons, ↓e_gtup, ↓e_for, ↓e_seqI, ↓e_enum, ↓rg1_i, ↓rg2_i, ↓e_rng1, ↓e_rng2, ↓e_lc, ↓e_yes, ↓e_onone, ↓e_osome, ↓e_sl, ↓e_isi, ↓e_isi2, ↓ownL_l, ↓ownA_l, ↓sO_o, ↓e_meth, ↓e_dnew, ↓e_dput, ↓e_lput, ↓e_lenSet, ↓e_chain, ↓e_asgT, ↓e_toN, ↓e_parN, ↓e_getD, ↓f_inC, ↓f_inI, ↓f_inIT, ↓f_inS, ↓pkC0, ↓pkC_sh, ↓pkC_own, ↓pkC_bor, ↓pkC_bag, ↓pkC_no, ↓f_ix0, ↓f_ix1, ↓f_ix2, ↓f_ix3, ↓f_ix4, ↓f_ixT0, ↓f_ixT1, ↓f_ixT2, ↓f_ixT3, ↓f_ixT4, ↓e_loopC, ↓e_loopN, ↓e_step, ↓e_exI, ↓e_toI, ↓f_eqW1, ↓f_eqW2, ↓f_eqW3, ↓f_sortI, ↓f_eqNN, ↓f_notScrL, ↓f_notScrT, ↓f_eqSL, ↓f_neSL, ↓f_eqSNil, ↓f_neSNil, ↓f_neNN, ↓e_lstRg1, ↓e_ifN, ↓e_ixl0, ↓e_ixl1, ↓e_ixl2, ↓e_ixl3, ↓e_ixt0, ↓e_ixt1, ↓e_ixt2, ↓e_ixt3, ↓f_inT2S, ↓f_eqNl, ↓e_isEx, ↓f_nonE, ↓f_empC, ↓f_empN, ↓e_dObj, ↓e_lkHit, ↓e_pfHit, ↓e_pfNil, ↓e_fld, ↓e_fput, ↓e_startM, ↓e_mnx, ↓e_mrt, ↓e_mex, ↓e_npN, ↓e_npD, ↓e_npB, ↓e_npP, ↓e_callM, ↓e_callR, ↓e_make, ↓e_ty_int_T, ↓e_ty_int_O, ↓e_ty_bool_T, ↓e_ty_bool_O, ↓e_ty_str_T, ↓e_ty_str_O, ↓e_ty_list_T, ↓e_ty_list_O, ↓e_ty_tuple_T, ↓e_ty_tuple_O, ↓e_ty_dict_T, ↓e_ty_dict_O, ↓e_gunl, ↓f_sortITl, ↓f_sortITt, ↓e_tryC, ↓f_sub, ↓f_mod, ↓f_div, ↓f_divW, ↓f_pow, ↓f_lt, ↓f_le, ↓f_gt, ↓f_ge, ↓f_addI, ↓f_addS, ↓f_addL, ↓f_mulI, ↓f_mulL, ↓f_eqI, ↓f_neI, ↓f_eqS, ↓f_neS, ↓f_eqB, ↓f_neB, ↓f_isN, ↓f_isNotN, ↓f_lenL, ↓f_lenT, ↓f_lenR, ↓f_lenS, ↓f_min, ↓f_max, ↓f_abs, ↓f_intI, ↓f_intB, ↓f_listL, ↓f_listT, ↓f_listS, ↓f_tupL, ↓f_slL, ↓f_slR, ↓f_slT, ↓f_app, ↓f_ext, ↓f_allM, ↓f_anyM, ↓f_eqIL, ↓f_neIL, ↓f_eqIT, ↓f_neIT, ↓f_eqNil, ↓f_neNil, ↓e_is_integer_distances, ↓e_is_integer_distancesN, ↓e_is_sequence_distances, ↓e_is_distances, ↓e_is_integer_facts, ↓e_is_sequence_facts, ↓e_check_size, ↓e_are_two_positions, ↓e_is_fact_of, ↓e_check_positions, ty_int_n, ty_int_b, ty_int_i, ty_int_s, ty_int_l, ty_int_t, ty_int_r, ty_int_d, ty_int_e, ty_bool_n, ty_bool_b, ty_bool_i, ty_bool_s, ty_bool_l, ty_bool_t, ty_bool_r, ty_bool_d, ty_bool_e, ty_str_n, ty_str_b, ty_str_i, ty_str_s, ty_str_l, ty_str_t, ty_str_r, ty_str_d, ty_str_e, ty_list_n, ty_list_b, ty_list_i, ty_list_s, ty_list_l, ty_list_t, ty_list_r, ty_list_d, ty_list_e, ty_tuple_n, ty_tuple_b, ty_tuple_i, ty_tuple_s, ty_tuple_l, ty_tuple_t, ty_tuple_r, ty_tuple_d, ty_tuple_e, ty_dict_n, ty_dict_b, ty_dict_i, ty_dict_s, ty_dict_l, ty_dict_t, ty_dict_r, ty_dict_d, ty_dict_e, cIf_t, cIf_f, cIf_n, isSc_n, isSc_b, isSc_i, isSc_s, ex_some, Int.reduceLT, Int.reduceLE, Int.reduceGT, Int.reduceGE, Int.reduceEq, Int.reduceNe, Int.reduceAdd, Int.reduceSub, Int.reduceMul, Int.reduceNeg, Int.reduceToNat, Int.reducePow, Nat.reduceLT, Nat.reduceAdd, Nat.reduceSub, Nat.reduceLeDiff, Nat.reduceEqDiff, Nat.reduceMul, Int.cast_ofNat_Int, true_or, true_and, and_true, List.length_cons, List.length_nil, List.length_map, n_n, n_b, n_i, n_s, n_l, n_t, se_c, se_n, se_0, ar_b, ar_s, ar_g, Bool.or_true, Bool.true_or, Bool.or_false, Bool.false_or, Bool.and_true, Bool.true_and, Bool.and_false, Bool.false_and, Bool.not_true, Bool.not_false, Bool.not_not, decide_true, decide_false, int_app, filter_tt, eq_self, Option.map_some, Option.map_none, Option.isSome_some, Option.isSome_none, Bool.false_eq_true, if_false, if_true, Nat.zero_add, Int.zero_add, Int.add_zero, Int.sub_zero, List.map_nil, List.nil_append, List.append_nil, int_rev, int_take, int_drop, int_dropLast, int_appL, e_toI, e_is_integer_distances, e_is_integer_distancesN, e_is_sequence_distances, e_is_distances, e_is_integer_facts, e_is_sequence_facts, e_check_size, e_are_two_positions, e_is_fact_of, e_check_positions]))

/-! ### distances_by -/
def sp_distances_by : Spq := fun as k _ => ∃ (ds : List D) (ks : List Key), as = [.bor (.lst ds)] ∧ ds.map keyD = ks.map some ∧ ds.length < 1000000 ∧ k (.own (.lst ((dist ks).map .int)))
theorem e_distances_by {w : List Int} {k : Rv → Prop} {x : Str → List D → Prop} : sp_distances_by [.bor (.lst (w.map .int))] k x = (w.length < 1000000 ∧ k (.own (.lst ((dist w).map .int)))) := by
  have e : ∀ ks : List Key, (w.map D.int).map keyD = ks.map some → ks = w.map .inl := fun ks h => by
    have : (w.map (Sum.inl : Int → Key)).map some = ks.map some := by rw [← h, List.map_map, List.map_map]; rfl
    exact ((List.map_inj_right (fun a b h => Option.some.inj h)).mp this).symm
  have e2 : dist (w.map (Sum.inl : Int → Key)) = dist w := dist_map _ (fun a b h => Sum.inl.inj h) w
  apply propext
  constructor
  · rintro ⟨ds, ks, h, h2, h3, q⟩
    cases h
    have := e ks h2
    subst this
    rw [e2] at q
    rw [List.length_map] at h3
    exact ⟨h3, q⟩
  · rintro ⟨h3, q⟩
    refine ⟨_, w.map .inl, rfl, by rw [List.map_map, List.map_map]; rfl, by rw [List.length_map]; exact h3, ?_⟩
    rw [e2]; exact q
section
variable {P : Program} {w : World} {K : Fg} {mg : Str → Option Value} {base : Heap} {g : Gd}
theorem sc_distances_by : FnScope ["symbols", "last_at", "found", "position", "symbol"] ["symbols"] (defScope s_distances_by) := ⟨rfl, rfl, rfl, by decide +kernel, rfl, by decide +kernel, by decide +kernel⟩
theorem fn_distances_by (T : Tx K mg) : ∃ fd, FnG P w K mg base 1 (He.ga K "distances_by") fd ["symbols"] (spQ K mg g sp_distances_by) ∧ FunD K "distances_by" "distances_by" (defArgs s_distances_by) (defBody s_distances_by) (defScope s_distances_by) [] [] (He.ga K "distances_by") fd := by
  have sc := sc_distances_by
  obtain ⟨fd, Fn⟩ := T.f_distances_by
  refine ⟨fd, fn_q g Fn sc (by decide) (fun as k x h => ?_) fun cdv A outer s H E hgd hr => ?_, Fn⟩
  · unfold sp_distances_by at h; first | (split at h <;> first | rfl | exact h.elim) | (obtain ⟨_, rfl, _⟩ := h; rfl) | (obtain ⟨_, _, rfl, _⟩ := h; rfl) | (obtain ⟨_, _, _, rfl, _⟩ := h; rfl) | (obtain ⟨_, _, _, _, rfl, _⟩ := h; rfl) | (obtain ⟨_, _, _, _, _, rfl, _⟩ := h; rfl) | (obtain ⟨_, _, _, _, _, _, rfl, _⟩ := h; rfl)
  · have tk : Takes (cxOf (L2.CX P w) P w K mg base ["symbols", "last_at", "found", "position", "symbol"] "distances_by" (defScope s_distances_by) (He.ga K "distances_by") cdv A outer s H E) (fun cls d _ H => E cls d H) := takes_of rfl rfl rfl rfl
    refine ⟨_, _, (qs_cons (qs_setN (i := 1) (by exact sc.nd) (by exact rfl) (Or.inl rfl) qn_dict (by rfl) (by first | exact .inl rfl | exact .inr rfl | assumption))
      (qs_cons (qs_setN (i := 2) (by exact sc.nd) (by exact rfl) (Or.inl rfl) (qn_lst qa_nil) (by rfl) (by first | exact .inl rfl | exact .inr rfl | assumption))
      (qs_cons (qs_for [3, 4] (qi_enum (by exact rfl) T.z_enumerate (q_var 0) (by rfl)) (qg_tup (n := 2) (by exact rfl) (qgs_cons (qg_name (i := 3) (by exact sc.nd) (by exact rfl) (by first | exact Or.inl rfl | exact Or.inr rfl) (by decide) (by first | exact .inl rfl | exact .inr rfl | assumption)) (qgs_cons (qg_name (i := 4) (by exact sc.nd) (by exact rfl) (by first | exact Or.inl rfl | exact Or.inr rfl) (by decide) (by first | exact .inl rfl | exact .inr rfl | assumption)) qgs_nil (by rfl)) (by rfl)) (by rfl) (by rfl))
      (qs_cons (qs_expr (q_meth (i := 2) PySem.F.slot_list_append PySem.F.type_list_append mt_append m_append (by exact rfl) (by first | exact Or.inl rfl | exact Or.inr (Or.inl rfl) | exact Or.inr (Or.inr rfl)) (qa_cons (q_op op_sub o_sub (q_var 3) (q_getD (by exact hu_of hr) (q_var 1) (q_var 4) (q_var 3) ⟨(by rfl), (by rfl), (by rfl), (by rfl)⟩)) qa_nil (by rfl)) (by decide) (by decide) (by rfl) (by rfl) (by rfl) (by rfl) (by rfl)) (by rfl))
      (qs_one (qs_dput (i := 1) (by exact hu_of hr) (by exact rfl) (by first | exact Or.inl rfl | exact Or.inr (Or.inl rfl) | exact Or.inr (Or.inr rfl)) (q_var 4) (q_var 3) (by decide) (by decide) (by rfl)))) (passes_of (by exact rfl)) (by rfl) (by intro _; rfl))
      (qs_one (qs_ret (q_var 2)))))), fun as k x h => ?_⟩
    clear tk hr hgd Fn sc T
    obtain ⟨ds, ks, rfl, hk, hl, h⟩ := h
    walk_at "q"
    have hkl : ks.length = ds.length := by have := congrArg List.length hk; simpa using this.symm
    have kAt : ∀ (n : Nat) (e : D), ds[n]? = some e → ∃ key, ks[n]? = some key ∧ keyD e = some key := fun n e he => by
      have := congrArg (fun l => l[n]?) hk
      simp only [List.getElem?_map, he, Option.map_some] at this
      cases hkn : ks[n]? with
      | none => rw [hkn] at this; cases this
      | some key => rw [hkn] at this; exact ⟨key, rfl, by simpa using this⟩
    refine loop_rule (fun (p : List (Key × D) × List Int × Sl × Sl) => [.bor (.lst ds), .own (.dct p.1), .own (.lst (p.2.1.map .int)), p.2.2.1, p.2.2.2])
      (fun m p => p.2.1 = (List.range m).map (dAt ks) ∧ p.1.length ≤ m ∧ ∀ key, vD p.1 key = (lastIn (fun j => decide (ks[j]? = some key)) m).map fun j => D.int (j : Nat)) ([], [], .no, .no) ⟨rfl, Nat.le_refl _, fun key => rfl⟩ (fun m d a X hd hI hX => ?_) fun a hI => ?_
    · obtain ⟨kvs, w, s1, s2⟩ := a
      obtain ⟨hw, hl2, hv⟩ := hI
      replace hw : w = (List.range m).map (dAt ks) := hw
      replace hl2 : kvs.length ≤ m := hl2
      replace hv : ∀ key, vD kvs key = (lastIn (fun j => decide (ks[j]? = some key)) m).map fun j => D.int (j : Nat) := hv
      obtain ⟨e, he, rfl⟩ := num_get hd
      obtain ⟨key, hkm, hke⟩ := kAt m e he
      have hm : m < ds.length := (List.getElem?_eq_some_iff.mp he).1
      have wl : w.length = m := by rw [hw]; simp
      have fin : ∀ s1' s2', X [.bor (.lst ds), .own (.dct (pD kvs key (.int m))), .own (.lst ((w ++ [dAt ks m]).map .int)), s1', s2'] := fun s1' s2' => by
        refine hX (pD kvs key (.int m), w ++ [dAt ks m], s1', s2') ⟨?_, ?_, fun k2 => ?_⟩
        · show w ++ [dAt ks m] = _
          rw [List.range_succ, List.map_append, hw]; rfl
        · exact Nat.le_trans (pD_length kvs key _) (by omega)
        · show vD (pD kvs key (.int m)) k2 = _
          rw [vD_put]
          unfold lastIn
          rw [hkm]
          by_cases h1 : k2 = key
          · subst h1; simp
          · have : ¬ key = k2 := fun e => h1 e.symm
            rw [if_neg h1, hv]
            simp [this]
      have hdk : ∀ f : Key → Prop, dK f e = f key := fun f => by
        cases e <;> cases hke <;> rfl
      walk_at "q"
      simp only [hdk]
      cases hc : lastIn (fun j => decide (ks[j]? = some key)) m with
      | none =>
        have hv2 : vD kvs key = none := by rw [hv, hc]; rfl
        have hd0 : dAt ks m = 0 := by unfold dAt; rw [hkm, hc]
        rw [hd0] at fin
        refine getC_none hv2 ?_
        try walk_at "q"
        try simp only [hdk, Int.sub_self]
        exact ⟨by omega, by omega, fin _ _⟩
      | some j =>
        have hv2 : vD kvs key = some (.int (j : Nat)) := by rw [hv, hc]; rfl
        have hd0 : dAt ks m = (m : Int) - (j : Nat) := by unfold dAt; rw [hkm, hc]
        rw [hd0] at fin
        refine getC_some hv2 ?_
        try walk_at "q"
        try simp only [hdk]
        exact ⟨by omega, by omega, fin _ _⟩
    · walk_at "q"
      obtain ⟨hw, _, _⟩ := hI
      rw [numbered_length] at hw
      rw [show a.2.1 = dist ks by rw [hw]; unfold dist; rw [hkl]]
      exact h
theorem cal_distances_by (T : Tx K mg) : Cal P w K mg base g 1 "distances_by" [] sp_distances_by := by
  obtain ⟨fd, G, Fn⟩ := fn_distances_by (P := P) (w := w) (base := base) (g := g) T
  exact ⟨_, fd, _, [], G, T.g_distances_by, Fn.kp, Fn.bindsN fun _ _ _ _ _ _ us hl => match us, hl with | [_], _ => rfl, .nil, rfl⟩
end

local macro_rules | `(tactic| walk_at "p") => `(tactic| (repeat (rw [pkV]; try walk_at "q")))
local macro_rules | `(tactic| walk_at "len") => `(tactic| (first | omega | (simp only [List.length_map, List.length_append, List.length_reverse, List.length_take, List.length_drop, List.length_dropLast, List.length_cons, List.length_nil, List.length_set, List.length_replicate, dist_length, nxt_length, idsD_length, numbered_length, ranged_length, upto_length]; omega)))
local macro_rules | `(tactic| walk_at "q") => `(tactic| (try simp only [↓hold1, ↓hold2, ↓cIf_t, ↓cIf_f, ↓lk0, ↓lk1, ↓st0, ↓st1, ↓wp0, ↓wp1, ↓wpm, ↓wpn, ↓sD_sh, ↓sD_own, ↓sD_bor, ↓rd_d, ↓rd_p, ↓dB_b, ↓dI_i, ↓dX_x, ↓dK_i, ↓dK_s, ↓dL_l, ↓dIt_l, ↓dIt_t, ↓dIt_s, ↓shS_sh, ↓shS_own, ↓shS_bor, ↓sh1_d, ↓sh1_p, ↓shs0, ↓shs1, ↓ress0, ↓ress1, ↓bagS_b, ↓arg_bor, ↓arg_sh, ↓arg_bag, ↓args0, ↓args1, ↓ap0, ↓ap0', ↓ap1, ↓reS_sh, ↓reS_own, ↓reS_bor, ↓ret_d, ↓ret_p, ↓asS_sh, ↓asS_own, ↓asS_bor, ↓as_d, ↓as_p, ↓rv_sh, ↓rv_own, ↓da_sh, ↓da_own, ↓itS_sh, ↓itS_own, ↓itS_bor, ↓it_d, ↓it_p, ↓e_var, ↓e_sh, ↓e_own, ↓e_bor, ↓e_bag, ↓e_c, ↓e_op, ↓e_opR, ↓e_test, ↓e_and, ↓e_or, ↓e_not, ↓e_andV, ↓e_orV, ↓e_notV, ↓e_ifE, ↓e_nil, ↓e_cons, ↓e_cb, ↓e_cbR, ↓e_ofN, ↓e_lst, ↓e_tup, ↓e_call, ↓e_callS, ↓e_next, ↓e_seq, ↓e_drop, ↓e_ret, ↓e_retN, ↓e_if, ↓e_set, ↓e_setN, ↓e_raise, ↓e_name, ↓e_gnil, ↓e_gcons, ↓e_gtup, ↓e_for, ↓e_seqI, ↓e_enum, ↓rg1_i, ↓rg2_i, ↓e_rng1, ↓e_rng2, ↓e_lc, ↓e_yes, ↓e_onone, ↓e_osome, ↓e_sl, ↓e_isi, ↓e_isi2, ↓ownL_l, ↓ownA_l, ↓sO_o, ↓e_meth, ↓e_dnew, ↓e_dput, ↓e_lput, ↓e_lenSet, ↓e_chain, ↓e_asgT, ↓e_toN, ↓e_parN, ↓e_getD, ↓f_inC, ↓f_inI, ↓f_inIT, ↓f_inS, ↓pkC0, ↓pkC_sh, ↓pkC_own, ↓pkC_bor, ↓pkC_bag, ↓pkC_no, ↓f_ix0, ↓f_ix1, ↓f_ix2, ↓f_ix3, ↓f_ix4, ↓f_ixT0, ↓f_ixT1, ↓f_ixT2, ↓f_ixT3, ↓f_ixT4, ↓e_loopC, ↓e_loopN, ↓e_step, ↓e_exI, ↓e_toI, ↓f_eqW1, ↓f_eqW2, ↓f_eqW3, ↓f_sortI, ↓f_eqNN, ↓f_notScrL, ↓f_notScrT, ↓f_eqSL, ↓f_neSL, ↓f_eqSNil, ↓f_neSNil, ↓f_neNN, ↓e_lstRg1, ↓e_ifN, ↓e_ixl0, ↓e_ixl1, ↓e_ixl2, ↓e_ixl3, ↓e_ixt0, ↓e_ixt1, ↓e_ixt2, ↓e_ixt3, ↓f_inT2S, ↓f_eqNl, ↓e_isEx, ↓f_nonE, ↓f_empC, ↓f_empN, ↓e_dObj, ↓e_lkHit, ↓e_pfHit, ↓e_pfNil, ↓e_fld, ↓e_fput, ↓e_startM, ↓e_mnx, ↓e_mrt, ↓e_mex, ↓e_npN, ↓e_npD, ↓e_npB, ↓e_npP, ↓e_callM, ↓e_callR, ↓e_make, ↓e_ty_int_T, ↓e_ty_int_O, ↓e_ty_bool_T, ↓e_ty_bool_O, ↓e_ty_str_T, ↓e_ty_str_O, ↓e_ty_list_T, ↓e_ty_list_O, ↓e_ty_tuple_T, ↓e_ty_tuple_O, ↓e_ty_dict_T, ↓e_ty_dict_O, ↓e_gunl, ↓f_sortITl, ↓f_sortITt, ↓e_tryC, ↓f_sub, ↓f_mod, ↓f_div, ↓f_divW, ↓f_pow, ↓f_lt, ↓f_le, ↓f_gt, ↓f_ge, ↓f_addI, ↓f_addS, ↓f_addL, ↓f_mulI, ↓f_mulL, ↓f_eqI, ↓f_neI, ↓f_eqS, ↓f_neS, ↓f_eqB, ↓f_neB, ↓f_isN, ↓f_isNotN, ↓f_lenL, ↓f_lenT, ↓f_lenR, ↓f_lenS, ↓f_min, ↓f_max, ↓f_abs, ↓f_intI, ↓f_intB, ↓f_listL, ↓f_listT, ↓f_listS, ↓f_tupL, ↓f_slL, ↓f_slR, ↓f_slT, ↓f_app, ↓f_ext, ↓f_allM, ↓f_anyM, ↓f_eqIL, ↓f_neIL, ↓f_eqIT, ↓f_neIT, ↓f_eqNil, ↓f_neNil, ↓e_is_integer_distances, ↓e_is_integer_distancesN, ↓e_is_sequence_distances, ↓e_is_distances, ↓e_is_integer_facts, ↓e_is_sequence_facts, ↓e_check_size, ↓e_are_two_positions, ↓e_is_fact_of, ↓e_check_positions, ↓e_distances_by, ty_int_n, ty_int_b, ty_int_i, ty_int_s, ty_int_l, ty_int_t, ty_int_r, ty_int_d, ty_int_e, ty_bool_n, ty_bool_b, ty_bool_i, ty_bool_s, ty_bool_l, ty_bool_t, ty_bool_r, ty_bool_d, ty_bool_e, ty_str_n, ty_str_b, ty_str_i, ty_str_s, ty_str_l, ty_str_t, ty_str_r, ty_str_d, ty_str_e, ty_list_n, ty_list_b, ty_list_i, ty_list_s, ty_list_l, ty_list_t, ty_list_r, ty_list_d, ty_list_e, ty_tuple_n, ty_tuple_b, ty_tuple_i, ty_tuple_s, ty_tuple_l, ty_tuple_t, ty_tuple_r, ty_tuple_d, ty_tuple_e, ty_dict_n, ty_dict_b, ty_dict_i, ty_dict_s, ty_dict_l, ty_dict_t, ty_dict_r, ty_dict_d, ty_dict_e, cIf_t, cIf_f, cIf_n, isSc_n, isSc_b, isSc_i, isSc_s, ex_some, Int.reduceLT, Int.reduceLE, Int.reduceGT, Int.reduceGE, Int.reduceEq, Int.reduceNe, Int.reduceAdd, Int.reduceSub, Int.reduceMul, Int.reduceNeg, Int.reduceToNat, Int.reducePow, Nat.reduceLT, Nat.reduceAdd, Nat.reduceSub, Nat.reduceLeDiff, Nat.reduceEqDiff, Nat.reduceMul, Int.cast_ofNat_Int, true_or, true_and, and_true, List.length_cons, List.length_nil, List.length_map, n_n, n_b, n_i, n_s, n_l, n_t, se_c, se_n, se_0, ar_b, ar_s, ar_g, Bool.or_true, Bool.true_or, Bool.or_false, Bool.false_or, Bool.and_true, Bool.true_and, Bool.and_false, Bool.false_and, Bool.not_true, Bool.not_false, Bool.not_not, decide_true, decide_false, int_app, filter_tt, eq_self, Option.map_some, Option.map_none, Option.isSome_some, Option.isSome_none, Bool.false_eq_true, if_false, if_true, Nat.zero_add, Int.zero_add, Int.add_zero, Int.sub_zero, List.map_nil, List.nil_append, List.append_nil, int_rev, int_take, int_drop, int_dropLast, int_appL, e_toI, e_is_integer_distances, e_is_integer_distancesN, e_is_sequence_distances, e_is_distances, e_is_integer_facts, e_is_sequence_facts, e_check_size, e_are_two_positions, e_is_fact_of, e_check_positions, e_distances_by]))

/-! ### linked_offsets -/

def sp_linked_offsets : Spq := fun as k x => ∃ (d : D), as = [.bor d] ∧ (∃ w : List Int, (d = .lst ((dist w).map .int) ∨ d = .tup ((dist w).map .int)) ∧ w.length ≤ 1000 ∧ k (.own (.lst (lnkD w))))
theorem e_linked_offsets {d : D} {k : Rv → Prop} {x : Str → List D → Prop} : sp_linked_offsets [.bor d] k x = (∃ w : List Int, (d = .lst ((dist w).map .int) ∨ d = .tup ((dist w).map .int)) ∧ w.length ≤ 1000 ∧ k (.own (.lst (lnkD w)))) := propext ⟨fun h => (by
  obtain ⟨d2, h, q⟩ := h
  simp only [List.cons.injEq, Ar.bor.injEq, Ar.sh.injEq, Ar.bag.injEq, D.lst.injEq, D.tup.injEq, D.int.injEq, D.str.injEq, D.bl.injEq, ints_inj, strs_inj, and_true, true_and] at h
  subst h
  exact q), fun q => ⟨_, rfl, q⟩⟩

section
variable {P : Program} {w : World} {K : Fg} {mg : Str → Option Value} {base : Heap} {g : Gd}
theorem sc_linked_offsets : FnScope ["distances", "offset", "back"] ["distances"] (defScope s_linked_offsets) := ⟨rfl, rfl, rfl, by decide +kernel, rfl, by decide +kernel, by decide +kernel⟩
theorem fn_linked_offsets (T : Tx K mg) : ∃ fd, FnG P w K mg base 1 (He.ga K "linked_offsets") fd ["distances"] (spQ K mg g sp_linked_offsets) ∧ FunD K "linked_offsets" "linked_offsets" (defArgs s_linked_offsets) (defBody s_linked_offsets) (defScope s_linked_offsets) [] [] (He.ga K "linked_offsets") fd := by
  have sc := sc_linked_offsets
  obtain ⟨fd, Fn⟩ := T.f_linked_offsets
  refine ⟨fd, fn_q g Fn sc (by decide) (fun as k x h => ?_) fun cdv A outer s H E hgd hr => ?_, Fn⟩
  · unfold sp_linked_offsets at h; first | (split at h <;> first | rfl | exact h.elim) | (obtain ⟨_, rfl, _⟩ := h; rfl) | (obtain ⟨_, _, rfl, _⟩ := h; rfl) | (obtain ⟨_, _, _, rfl, _⟩ := h; rfl) | (obtain ⟨_, _, _, _, rfl, _⟩ := h; rfl) | (obtain ⟨_, _, _, _, _, rfl, _⟩ := h; rfl) | (obtain ⟨_, _, _, _, _, _, rfl, _⟩ := h; rfl)
  · have tk : Takes (cxOf (L2.CX P w) P w K mg base ["distances", "offset", "back"] "linked_offsets" (defScope s_linked_offsets) (He.ga K "linked_offsets") cdv A outer s H E) (fun cls d _ H => E cls d H) := takes_of rfl rfl rfl rfl
    refine ⟨_, _, (qs_one (qs_retN (qn_lcB [("offset", 1), ("back", 2)] (by exact rfl) (by exact sc.nd) (qi_enum (by exact rfl) T.z_enumerate (q_var 0) (by rfl)) (blkOk_by (by kernel_rfl)) (fun _ _ _ _ _ => (qg_tup (n := 2) (by exact rfl) (qgs_cons (qg_name (i := 1) (by exact sc.nd) (by exact rfl) (by first | exact Or.inl rfl | exact Or.inr rfl) (by decide) (by first | exact .inl rfl | exact .inr rfl | assumption)) (qgs_cons (qg_name (i := 2) (by exact sc.nd) (by exact rfl) (by first | exact Or.inl rfl | exact Or.inr rfl) (by decide) (by first | exact .inl rfl | exact .inr rfl | assumption)) qgs_nil (by rfl)) (by rfl)) (by rfl) (by rfl))) (fun _ _ _ _ _ => (qts_one (qt_cmp op_gt o_gt (q_var 2) q_int (by first | exact nomark _ | rfl)))) (fun _ _ _ _ _ => (q_tup (qa_cons (q_op op_sub o_sub (q_var 1) (q_var 2)) (qa_cons (q_var 1) qa_nil (by rfl)) (by rfl)))) (by intro _; rfl) (by intros; rfl) (by intros; rfl) (by intros; rfl)))), fun as k x h => ?_⟩
    clear tk hr hgd Fn sc T
    obtain ⟨d, rfl, w, hd, hl, h⟩ := h
    rcases hd with rfl | rfl
    · walk_at "q"
      rw [num_dist]
      refine comp_on (fun o : Nat => D.tup [.int (o : Nat), .int (dAt w o)]) (fun o => decide (0 < dAt w o)) (fun o : Nat => D.tup [.int ((o : Int) - dAt w o), .int (o : Nat)]) (fun n a acc X ha hn hacc h1 h2 => ?_) ?_
      · walk_at "q"
        refine cIf_i (fun e => ?_) (fun e => ?_)
        · walk_at "q"
          rw [List.length_range] at hn
          exact ⟨by omega, h1 (decide_eq_true e)⟩
        · walk_at "q"
          exact h2 (decide_eq_false e)
      rw [lnkD_eq]
      exact h
    · walk_at "q"
      rw [num_dist]
      refine comp_on (fun o : Nat => D.tup [.int (o : Nat), .int (dAt w o)]) (fun o => decide (0 < dAt w o)) (fun o : Nat => D.tup [.int ((o : Int) - dAt w o), .int (o : Nat)]) (fun n a acc X ha hn hacc h1 h2 => ?_) ?_
      · walk_at "q"
        refine cIf_i (fun e => ?_) (fun e => ?_)
        · walk_at "q"
          rw [List.length_range] at hn
          exact ⟨by omega, h1 (decide_eq_true e)⟩
        · walk_at "q"
          exact h2 (decide_eq_false e)
      rw [lnkD_eq]
      exact h
theorem cal_linked_offsets (T : Tx K mg) : Cal P w K mg base g 1 "linked_offsets" [] sp_linked_offsets := by
  obtain ⟨fd, G, Fn⟩ := fn_linked_offsets (P := P) (w := w) (base := base) (g := g) T
  exact ⟨_, fd, _, [], G, T.g_linked_offsets, Fn.kp, Fn.bindsN fun _ _ _ _ _ _ us hl => match us, hl with | [_], _ => rfl, .nil, rfl⟩
end

local macro_rules | `(tactic| walk_at "p") => `(tactic| (repeat (rw [pkV]; try walk_at "q")))
local macro_rules | `(tactic| walk_at "len") => `(tactic| (first | omega | (simp only [List.length_map, List.length_append, List.length_reverse, List.length_take, List.length_drop, List.length_dropLast, List.length_cons, List.length_nil, List.length_set, List.length_replicate, dist_length, nxt_length, idsD_length, numbered_length, ranged_length, upto_length]; omega)))
local macro_rules | `(tactic| walk_at "q") => `(tactic| (try simp only [↓hold1, ↓hold2, ↓cIf_t, ↓cIf_f, ↓lk0, ↓lk1, ↓st0, ↓st1, ↓wp0, ↓wp1, ↓wpm, ↓wpn, ↓sD_sh, ↓sD_own, ↓sD_bor, ↓rd_d, ↓rd_p, ↓dB_b, ↓dI_i, ↓dX_x, ↓dK_i, ↓dK_s, ↓dL_l, ↓dIt_l, ↓dIt_t, ↓dIt_s, ↓shS_sh, ↓shS_own, ↓shS_bor, ↓sh1_d, ↓sh1_p, ↓shs0, ↓shs1, ↓ress0, ↓ress1, ↓bagS_b, ↓arg_bor, ↓arg_sh, ↓arg_bag, ↓args0, ↓args1, ↓ap0, ↓ap0', ↓ap1, ↓reS_sh, ↓reS_own, ↓reS_bor, ↓ret_d, ↓ret_p, ↓asS_sh, ↓asS_own, ↓asS_bor, ↓as_d, ↓as_p, ↓rv_sh, ↓rv_own, ↓da_sh, ↓da_own, ↓itS_sh, ↓itS_own, ↓itS_bor, ↓it_d, ↓it_p, ↓e_var, ↓e_sh, ↓e_own, ↓e_bor, ↓e_bag, ↓e_c, ↓e_op, ↓e_opR, ↓e_test, ↓e_and, ↓e_or, ↓e_not, ↓e_andV, ↓e_orV, ↓e_notV, ↓e_ifE, ↓e_nil, ↓e_cons, ↓e_cb, ↓e_cbR, ↓e_ofN, ↓e_lst, ↓e_tup, ↓e_call, ↓e_callS, ↓e_next, ↓e_seq, ↓e_drop, ↓e_ret, ↓e_retN, ↓e_if, ↓e_set, ↓e_setN, ↓e_raise, ↓e_name, ↓e_gnil, ↓e_gcons, ↓e_gtup, ↓e_for, ↓e_seqI, ↓e_enum, ↓rg1_i, ↓rg2_i, ↓e_rng1, ↓e_rng2, ↓e_lc, ↓e_yes, ↓e_onone, ↓e_osome, ↓e_sl, ↓e_isi, ↓e_isi2, ↓ownL_l, ↓ownA_l, ↓sO_o, ↓e_meth, ↓e_dnew, ↓e_dput, ↓e_lput, ↓e_lenSet, ↓e_chain, ↓e_asgT, ↓e_toN, ↓e_parN, ↓e_getD, ↓f_inC, ↓f_inI, ↓f_inIT, ↓f_inS, ↓pkC0, ↓pkC_sh, ↓pkC_own, ↓pkC_bor, ↓pkC_bag, ↓pkC_no, ↓f_ix0, ↓f_ix1, ↓f_ix2, ↓f_ix3, ↓f_ix4, ↓f_ixT0, ↓f_ixT1, ↓f_ixT2, ↓f_ixT3, ↓f_ixT4, ↓e_loopC, ↓e_loopN, ↓e_step, ↓e_exI, ↓e_toI, ↓f_eqW1, ↓f_eqW2, ↓f_eqW3, ↓f_sortI, ↓f_eqNN, ↓f_notScrL, ↓f_notScrT, ↓f_eqSL, ↓f_neSL, ↓f_eqSNil, ↓f_neSNil, ↓f_neNN, ↓e_lstRg1, ↓e_ifN, ↓e_ixl0, ↓e_ixl1, ↓e_ixl2, ↓e_ixl3, ↓e_ixt0, ↓e_ixt1, ↓e_ixt2, ↓e_ixt3, ↓f_inT2S, ↓f_eqNl, ↓e_isEx, ↓f_nonE, ↓f_empC, ↓f_empN, ↓e_dObj, ↓e_lkHit, ↓e_pfHit, ↓e_pfNil, ↓e_fld, ↓e_fput, ↓e_startM, ↓e_mnx, ↓e_mrt, ↓e_mex, ↓e_npN, ↓e_npD, ↓e_npB, ↓e_npP, ↓e_callM, ↓e_callR, ↓e_make, ↓e_ty_int_T, ↓e_ty_int_O, ↓e_ty_bool_T, ↓e_ty_bool_O, ↓e_ty_str_T, ↓e_ty_str_O, ↓e_ty_list_T, ↓e_ty_list_O, ↓e_ty_tuple_T, ↓e_ty_tuple_O, ↓e_ty_dict_T, ↓e_ty_dict_O, ↓e_gunl, ↓f_sortITl, ↓f_sortITt, ↓e_tryC, ↓f_sub, ↓f_mod, ↓f_div, ↓f_divW, ↓f_pow, ↓f_lt, ↓f_le, ↓f_gt, ↓f_ge, ↓f_addI, ↓f_addS, ↓f_addL, ↓f_mulI, ↓f_mulL, ↓f_eqI, ↓f_neI, ↓f_eqS, ↓f_neS, ↓f_eqB, ↓f_neB, ↓f_isN, ↓f_isNotN, ↓f_lenL, ↓f_lenT, ↓f_lenR, ↓f_lenS, ↓f_min, ↓f_max, ↓f_abs, ↓f_intI, ↓f_intB, ↓f_listL, ↓f_listT, ↓f_listS, ↓f_tupL, ↓f_slL, ↓f_slR, ↓f_slT, ↓f_app, ↓f_ext, ↓f_allM, ↓f_anyM, ↓f_eqIL, ↓f_neIL, ↓f_eqIT, ↓f_neIT, ↓f_eqNil, ↓f_neNil, ↓e_is_integer_distances, ↓e_is_integer_distancesN, ↓e_is_sequence_distances, ↓e_is_distances, ↓e_is_integer_facts, ↓e_is_sequence_facts, ↓e_check_size, ↓e_are_two_positions, ↓e_is_fact_of, ↓e_check_positions, ↓e_distances_by, ↓e_linked_offsets, ty_int_n, ty_int_b, ty_int_i, ty_int_s, ty_int_l, ty_int_t, ty_int_r, ty_int_d, ty_int_e, ty_bool_n, ty_bool_b, ty_bool_i, ty_bool_s, ty_bool_l, ty_bool_t, ty_bool_r, ty_bool_d, ty_bool_e, ty_str_n, ty_str_b, ty_str_i, ty_str_s, ty_str_l, ty_str_t, ty_str_r, ty_str_d, ty_str_e, ty_list_n, ty_list_b, ty_list_i, ty_list_s, ty_list_l, ty_list_t, ty_list_r, ty_list_d, ty_list_e, ty_tuple_n, ty_tuple_b, ty_tuple_i, ty_tuple_s, ty_tuple_l, ty_tuple_t, ty_tuple_r, ty_tuple_d, ty_tuple_e, ty_dict_n, ty_dict_b, ty_dict_i, ty_dict_s, ty_dict_l, ty_dict_t, ty_dict_r, ty_dict_d, ty_dict_e, cIf_t, cIf_f, cIf_n, isSc_n, isSc_b, isSc_i, isSc_s, ex_some, Int.reduceLT, Int.reduceLE, Int.reduceGT, Int.reduceGE, Int.reduceEq, Int.reduceNe, Int.reduceAdd, Int.reduceSub, Int.reduceMul, Int.reduceNeg, Int.reduceToNat, Int.reducePow, Nat.reduceLT, Nat.reduceAdd, Nat.reduceSub, Nat.reduceLeDiff, Nat.reduceEqDiff, Nat.reduceMul, Int.cast_ofNat_Int, true_or, true_and, and_true, List.length_cons, List.length_nil, List.length_map, n_n, n_b, n_i, n_s, n_l, n_t, se_c, se_n, se_0, ar_b, ar_s, ar_g, Bool.or_true, Bool.true_or, Bool.or_false, Bool.false_or, Bool.and_true, Bool.true_and, Bool.and_false, Bool.false_and, Bool.not_true, Bool.not_false, Bool.not_not, decide_true, decide_false, int_app, filter_tt, eq_self, Option.map_some, Option.map_none, Option.isSome_some, Option.isSome_none, Bool.false_eq_true, if_false, if_true, Nat.zero_add, Int.zero_add, Int.add_zero, Int.sub_zero, List.map_nil, List.nil_append, List.append_nil, int_rev, int_take, int_drop, int_dropLast, int_appL, e_toI, e_is_integer_distances, e_is_integer_distancesN, e_is_sequence_distances, e_is_distances, e_is_integer_facts, e_is_sequence_facts, e_check_size, e_are_two_positions, e_is_fact_of, e_check_positions, e_distances_by, e_linked_offsets]))

/-! ### representatives -/

def sp_representatives : Spq := fun as k x => ∃ (d : D), as = [.bor d] ∧ (∃ w : List Int, (d = .lst ((dist w).map .int) ∨ d = .tup ((dist w).map .int)) ∧ w.length ≤ 1000 ∧ ∀ R : List Int, Alike R w → k (.own (.lst (R.map .int))))
theorem e_representatives {d : D} {k : Rv → Prop} {x : Str → List D → Prop} : sp_representatives [.bor d] k x = (∃ w : List Int, (d = .lst ((dist w).map .int) ∨ d = .tup ((dist w).map .int)) ∧ w.length ≤ 1000 ∧ ∀ R : List Int, Alike R w → k (.own (.lst (R.map .int)))) := propext ⟨fun h => (by
  obtain ⟨d2, h, q⟩ := h
  simp only [List.cons.injEq, Ar.bor.injEq, Ar.sh.injEq, Ar.bag.injEq, D.lst.injEq, D.tup.injEq, D.int.injEq, D.str.injEq, D.bl.injEq, ints_inj, strs_inj, and_true, true_and] at h
  subst h
  exact q), fun q => ⟨_, rfl, q⟩⟩

section
variable {P : Program} {w : World} {K : Fg} {mg : Str → Option Value} {base : Heap} {g : Gd}
theorem sc_representatives : FnScope ["distances", "found", "position", "back"] ["distances"] (defScope s_representatives) := ⟨rfl, rfl, rfl, by decide +kernel, rfl, by decide +kernel, by decide +kernel⟩
theorem fn_representatives (T : Tx K mg) : ∃ fd, FnG P w K mg base 1 (He.ga K "representatives") fd ["distances"] (spQ K mg g sp_representatives) ∧ FunD K "representatives" "representatives" (defArgs s_representatives) (defBody s_representatives) (defScope s_representatives) [] [] (He.ga K "representatives") fd := by
  have sc := sc_representatives
  obtain ⟨fd, Fn⟩ := T.f_representatives
  refine ⟨fd, fn_q g Fn sc (by decide) (fun as k x h => ?_) fun cdv A outer s H E hgd hr => ?_, Fn⟩
  · unfold sp_representatives at h; first | (split at h <;> first | rfl | exact h.elim) | (obtain ⟨_, rfl, _⟩ := h; rfl) | (obtain ⟨_, _, rfl, _⟩ := h; rfl) | (obtain ⟨_, _, _, rfl, _⟩ := h; rfl) | (obtain ⟨_, _, _, _, rfl, _⟩ := h; rfl) | (obtain ⟨_, _, _, _, _, rfl, _⟩ := h; rfl) | (obtain ⟨_, _, _, _, _, _, rfl, _⟩ := h; rfl)
  · have tk : Takes (cxOf (L2.CX P w) P w K mg base ["distances", "found", "position", "back"] "representatives" (defScope s_representatives) (He.ga K "representatives") cdv A outer s H E) (fun cls d _ H => E cls d H) := takes_of rfl rfl rfl rfl
    refine ⟨_, _, (qs_cons (qs_setN (i := 1) (by exact sc.nd) (by exact rfl) (Or.inl rfl) (qn_lst qa_nil) (by rfl) (by first | exact .inl rfl | exact .inr rfl | assumption))
      (qs_cons (qs_for [2, 3] (qi_enum (by exact rfl) T.z_enumerate (q_var 0) (by rfl)) (qg_tup (n := 2) (by exact rfl) (qgs_cons (qg_name (i := 2) (by exact sc.nd) (by exact rfl) (by first | exact Or.inl rfl | exact Or.inr rfl) (by decide) (by first | exact .inl rfl | exact .inr rfl | assumption)) (qgs_cons (qg_name (i := 3) (by exact sc.nd) (by exact rfl) (by first | exact Or.inl rfl | exact Or.inr rfl) (by decide) (by first | exact .inl rfl | exact .inr rfl | assumption)) qgs_nil (by rfl)) (by rfl)) (by rfl) (by rfl))
      (qs_one (qs_expr (q_meth (i := 1) PySem.F.slot_list_append PySem.F.type_list_append mt_append m_append (by exact rfl) (by first | exact Or.inl rfl | exact Or.inr (Or.inl rfl) | exact Or.inr (Or.inr rfl)) (qa_cons (q_ifExp (qt_cmp (or_eqQ (by exact hr.units)) o_eq (q_var 3) q_int (by first | exact nomark _ | rfl)) (q_var 2) (q_ix ix_Q o_ix (q_var 1) (q_op op_sub o_sub (q_var 2) (q_var 3)) (by exact fun _ _ => rfl))) qa_nil (by rfl)) (by decide) (by decide) (by rfl) (by rfl) (by rfl) (by rfl) (by rfl)) (by rfl))) (passes_of (by exact rfl)) (by rfl) (by intro _; rfl))
      (qs_one (qs_ret (q_var 1))))), fun as k x h => ?_⟩
    clear tk hr hgd Fn sc T
    obtain ⟨d, rfl, w, hd, hl, h⟩ := h
    rcases hd with rfl | rfl
    · walk_at "q"
      rw [num_dist]
      refine loopJ (fun m env => ∃ (R : List Int) (s2 s3 : Sl), env = [.bor (.lst ((dist w).map .int)), .own (.lst (R.map .int)), s2, s3] ∧ R.length = m ∧ Alike R (w.take m) ∧ ∀ x ∈ R, x < m) ⟨[], _, _, rfl, rfl, Alike.refl [], by simp⟩ (fun m d env X hd hJ hX => ?_) fun env hJ => ?_
      rotate_left
      · obtain ⟨R, s2, s3, rfl, hR, hA, _⟩ := hJ
        walk_at "q"
        rw [List.length_map, List.length_range, List.take_length] at hA
        exact h R hA
      obtain ⟨R, s2, s3, rfl, hR, hA, hb⟩ := hJ
      rw [List.getElem?_map] at hd
      have hm : m < w.length := by
        rcases Nat.lt_or_ge m w.length with z | z
        · exact z
        · rw [List.getElem?_eq_none (by rw [List.length_range]; exact z)] at hd; cases hd
      rw [List.getElem?_range hm] at hd
      cases hd
      have hb2 := dAt_bounds w m
      have et : w.take (m + 1) = w.take m ++ [w[m]] := by rw [List.take_add_one, List.getElem?_eq_getElem hm]; rfl
      walk_at "q"
      refine cIf_i (fun e => ?_) (fun e => ?_)
      · walk_at "q"
        refine ⟨by omega, ?_⟩
        refine hX _ ⟨R ++ [(m : Int)], _, _, rfl, by rw [List.length_append, hR]; rfl, ?_, fun x hx => ?_⟩
        · rw [et]
          refine hA.snoc fun j hj => ⟨fun z => ?_, fun z => ?_⟩
          · have := hb _ (List.mem_of_getElem? z)
            omega
          · exfalso
            rw [List.getElem?_take_of_lt (by omega)] at z
            exact dAt_zero e j (by omega) (by rw [z, List.getElem?_eq_getElem hm])
        · rcases List.mem_append.mp hx with hx | hx
          · have := hb x hx; omega
          · rw [List.mem_singleton.mp hx]; omega
      walk_at "q"
      obtain ⟨j, hj, hdj⟩ := dAt_pos (w := w) (p := m) (by omega)
      obtain ⟨j1, j2, _⟩ := lastIn_some.mp hj
      have j2 := of_decide_eq_true j2
      have hjR : j < R.length := by omega
      refine ⟨.int R[j], ?_, ?_⟩
      · rw [atI_pos (by omega), show ((m : Int) - dAt w m).toNat = j by omega, List.getElem?_map, List.getElem?_eq_getElem hjR]; rfl
      walk_at "q"
      refine ⟨by omega, ?_⟩
      refine hX _ ⟨R ++ [R[j]], _, _, rfl, by rw [List.length_append, hR]; rfl, ?_, fun x hx => ?_⟩
      · rw [et]
        refine hA.snoc fun i hi => ?_
        have := hA.2 i j hi (by omega)
        rw [List.getElem?_eq_getElem hjR, List.getElem?_take_of_lt (by omega : j < m), j2, List.getElem?_eq_getElem hm] at this
        exact this
      · rcases List.mem_append.mp hx with hx | hx
        · have := hb x hx; omega
        · rw [List.mem_singleton.mp hx]
          have := hb _ (List.getElem_mem hjR); omega
    · walk_at "q"
      rw [num_dist]
      refine loopJ (fun m env => ∃ (R : List Int) (s2 s3 : Sl), env = [.bor (.tup ((dist w).map .int)), .own (.lst (R.map .int)), s2, s3] ∧ R.length = m ∧ Alike R (w.take m) ∧ ∀ x ∈ R, x < m) ⟨[], _, _, rfl, rfl, Alike.refl [], by simp⟩ (fun m d env X hd hJ hX => ?_) fun env hJ => ?_
      rotate_left
      · obtain ⟨R, s2, s3, rfl, hR, hA, _⟩ := hJ
        walk_at "q"
        rw [List.length_map, List.length_range, List.take_length] at hA
        exact h R hA
      obtain ⟨R, s2, s3, rfl, hR, hA, hb⟩ := hJ
      rw [List.getElem?_map] at hd
      have hm : m < w.length := by
        rcases Nat.lt_or_ge m w.length with z | z
        · exact z
        · rw [List.getElem?_eq_none (by rw [List.length_range]; exact z)] at hd; cases hd
      rw [List.getElem?_range hm] at hd
      cases hd
      have hb2 := dAt_bounds w m
      have et : w.take (m + 1) = w.take m ++ [w[m]] := by rw [List.take_add_one, List.getElem?_eq_getElem hm]; rfl
      walk_at "q"
      refine cIf_i (fun e => ?_) (fun e => ?_)
      · walk_at "q"
        refine ⟨by omega, ?_⟩
        refine hX _ ⟨R ++ [(m : Int)], _, _, rfl, by rw [List.length_append, hR]; rfl, ?_, fun x hx => ?_⟩
        · rw [et]
          refine hA.snoc fun j hj => ⟨fun z => ?_, fun z => ?_⟩
          · have := hb _ (List.mem_of_getElem? z)
            omega
          · exfalso
            rw [List.getElem?_take_of_lt (by omega)] at z
            exact dAt_zero e j (by omega) (by rw [z, List.getElem?_eq_getElem hm])
        · rcases List.mem_append.mp hx with hx | hx
          · have := hb x hx; omega
          · rw [List.mem_singleton.mp hx]; omega
      walk_at "q"
      obtain ⟨j, hj, hdj⟩ := dAt_pos (w := w) (p := m) (by omega)
      obtain ⟨j1, j2, _⟩ := lastIn_some.mp hj
      have j2 := of_decide_eq_true j2
      have hjR : j < R.length := by omega
      refine ⟨.int R[j], ?_, ?_⟩
      · rw [atI_pos (by omega), show ((m : Int) - dAt w m).toNat = j by omega, List.getElem?_map, List.getElem?_eq_getElem hjR]; rfl
      walk_at "q"
      refine ⟨by omega, ?_⟩
      refine hX _ ⟨R ++ [R[j]], _, _, rfl, by rw [List.length_append, hR]; rfl, ?_, fun x hx => ?_⟩
      · rw [et]
        refine hA.snoc fun i hi => ?_
        have := hA.2 i j hi (by omega)
        rw [List.getElem?_eq_getElem hjR, List.getElem?_take_of_lt (by omega : j < m), j2, List.getElem?_eq_getElem hm] at this
        exact this
      · rcases List.mem_append.mp hx with hx | hx
        · have := hb x hx; omega
        · rw [List.mem_singleton.mp hx]
          have := hb _ (List.getElem_mem hjR); omega
theorem cal_representatives (T : Tx K mg) : Cal P w K mg base g 1 "representatives" [] sp_representatives := by
  obtain ⟨fd, G, Fn⟩ := fn_representatives (P := P) (w := w) (base := base) (g := g) T
  exact ⟨_, fd, _, [], G, T.g_representatives, Fn.kp, Fn.bindsN fun _ _ _ _ _ _ us hl => match us, hl with | [_], _ => rfl, .nil, rfl⟩
end

local macro_rules | `(tactic| walk_at "p") => `(tactic| (repeat (rw [pkV]; try walk_at "q")))
local macro_rules | `(tactic| walk_at "len") => `(tactic| (first | omega | (simp only [List.length_map, List.length_append, List.length_reverse, List.length_take, List.length_drop, List.length_dropLast, List.length_cons, List.length_nil, List.length_set, List.length_replicate, dist_length, nxt_length, idsD_length, numbered_length, ranged_length, upto_length]; omega)))
local macro_rules | `(tactic| walk_at "q") => `(tactic| (try simp only [↓hold1, ↓hold2, ↓cIf_t, ↓cIf_f, ↓lk0, ↓lk1, ↓st0, ↓st1, ↓wp0, ↓wp1, ↓wpm, ↓wpn, ↓sD_sh, ↓sD_own, ↓sD_bor, ↓rd_d, ↓rd_p, ↓dB_b, ↓dI_i, ↓dX_x, ↓dK_i, ↓dK_s, ↓dL_l, ↓dIt_l, ↓dIt_t, ↓dIt_s, ↓shS_sh, ↓shS_own, ↓shS_bor, ↓sh1_d, ↓sh1_p, ↓shs0, ↓shs1, ↓ress0, ↓ress1, ↓bagS_b, ↓arg_bor, ↓arg_sh, ↓arg_bag, ↓args0, ↓args1, ↓ap0, ↓ap0', ↓ap1, ↓reS_sh, ↓reS_own, ↓reS_bor, ↓ret_d, ↓ret_p, ↓asS_sh, ↓asS_own, ↓asS_bor, ↓as_d, ↓as_p, ↓rv_sh, ↓rv_own, ↓da_sh, ↓da_own, ↓itS_sh, ↓itS_own, ↓itS_bor, ↓it_d, ↓it_p, ↓e_var, ↓e_sh, ↓e_own, ↓e_bor, ↓e_bag, ↓e_c, ↓e_op, ↓e_opR, ↓e_test, ↓e_and, ↓e_or, ↓e_not, ↓e_andV, ↓e_orV, ↓e_notV, ↓e_ifE, ↓e_nil, ↓e_cons, ↓e_cb, ↓e_cbR, ↓e_ofN, ↓e_lst, ↓e_tup, ↓e_call, ↓e_callS, ↓e_next, ↓e_seq, ↓e_drop, ↓e_ret, ↓e_retN, ↓e_if, ↓e_set, ↓e_setN, ↓e_raise, ↓e_name, ↓e_gnil, ↓e_gcons, ↓e_gtup, ↓e_for, ↓e_seqI, ↓e_enum, ↓rg1_i, ↓rg2_i, ↓e_rng1, ↓e_rng2, ↓e_lc, ↓e_yes, ↓e_onone, ↓e_osome, ↓e_sl, ↓e_isi, ↓e_isi2, ↓ownL_l, ↓ownA_l, ↓sO_o, ↓e_meth, ↓e_dnew, ↓e_dput, ↓e_lput, ↓e_lenSet, ↓e_chain, ↓e_asgT, ↓e_toN, ↓e_parN, ↓e_getD, ↓f_inC, ↓f_inI, ↓f_inIT, ↓f_inS, ↓pkC0, ↓pkC_sh, ↓pkC_own, ↓pkC_bor, ↓pkC_bag, ↓pkC_no, ↓f_ix0, ↓f_ix1, ↓f_ix2, ↓f_ix3, ↓f_ix4, ↓f_ixT0, ↓f_ixT1, ↓f_ixT2, ↓f_ixT3, ↓f_ixT4, ↓e_loopC, ↓e_loopN, ↓e_step, ↓e_exI, ↓e_toI, ↓f_eqW1, ↓f_eqW2, ↓f_eqW3, ↓f_sortI, ↓f_eqNN, ↓f_notScrL, ↓f_notScrT, ↓f_eqSL, ↓f_neSL, ↓f_eqSNil, ↓f_neSNil, ↓f_neNN, ↓e_lstRg1, ↓e_ifN, ↓e_ixl0, ↓e_ixl1, ↓e_ixl2, ↓e_ixl3, ↓e_ixt0, ↓e_ixt1, ↓e_ixt2, ↓e_ixt3, ↓f_inT2S, ↓f_eqNl, ↓e_isEx, ↓f_nonE, ↓f_empC, ↓f_empN, ↓e_dObj, ↓e_lkHit, ↓e_pfHit, ↓e_pfNil, ↓e_fld, ↓e_fput, ↓e_startM, ↓e_mnx, ↓e_mrt, ↓e_mex, ↓e_npN, ↓e_npD, ↓e_npB, ↓e_npP, ↓e_callM, ↓e_callR, ↓e_make, ↓e_ty_int_T, ↓e_ty_int_O, ↓e_ty_bool_T, ↓e_ty_bool_O, ↓e_ty_str_T, ↓e_ty_str_O, ↓e_ty_list_T, ↓e_ty_list_O, ↓e_ty_tuple_T, ↓e_ty_tuple_O, ↓e_ty_dict_T, ↓e_ty_dict_O, ↓e_gunl, ↓f_sortITl, ↓f_sortITt, ↓e_tryC, ↓f_sub, ↓f_mod, ↓f_div, ↓f_divW, ↓f_pow, ↓f_lt, ↓f_le, ↓f_gt, ↓f_ge, ↓f_addI, ↓f_addS, ↓f_addL, ↓f_mulI, ↓f_mulL, ↓f_eqI, ↓f_neI, ↓f_eqS, ↓f_neS, ↓f_eqB, ↓f_neB, ↓f_isN, ↓f_isNotN, ↓f_lenL, ↓f_lenT, ↓f_lenR, ↓f_lenS, ↓f_min, ↓f_max, ↓f_abs, ↓f_intI, ↓f_intB, ↓f_listL, ↓f_listT, ↓f_listS, ↓f_tupL, ↓f_slL, ↓f_slR, ↓f_slT, ↓f_app, ↓f_ext, ↓f_allM, ↓f_anyM, ↓f_eqIL, ↓f_neIL, ↓f_eqIT, ↓f_neIT, ↓f_eqNil, ↓f_neNil, ↓e_is_integer_distances, ↓e_is_integer_distancesN, ↓e_is_sequence_distances, ↓e_is_distances, ↓e_is_integer_facts, ↓e_is_sequence_facts, ↓e_check_size, ↓e_are_two_positions, ↓e_is_fact_of, ↓e_check_positions, ↓e_distances_by, ↓e_linked_offsets, ↓e_representatives, ty_int_n, ty_int_b, ty_int_i, ty_int_s, ty_int_l, ty_int_t, ty_int_r, ty_int_d, ty_int_e, ty_bool_n, ty_bool_b, ty_bool_i, ty_bool_s, ty_bool_l, ty_bool_t, ty_bool_r, ty_bool_d, ty_bool_e, ty_str_n, ty_str_b, ty_str_i, ty_str_s, ty_str_l, ty_str_t, ty_str_r, ty_str_d, ty_str_e, ty_list_n, ty_list_b, ty_list_i, ty_list_s, ty_list_l, ty_list_t, ty_list_r, ty_list_d, ty_list_e, ty_tuple_n, ty_tuple_b, ty_tuple_i, ty_tuple_s, ty_tuple_l, ty_tuple_t, ty_tuple_r, ty_tuple_d, ty_tuple_e, ty_dict_n, ty_dict_b, ty_dict_i, ty_dict_s, ty_dict_l, ty_dict_t, ty_dict_r, ty_dict_d, ty_dict_e, cIf_t, cIf_f, cIf_n, isSc_n, isSc_b, isSc_i, isSc_s, ex_some, Int.reduceLT, Int.reduceLE, Int.reduceGT, Int.reduceGE, Int.reduceEq, Int.reduceNe, Int.reduceAdd, Int.reduceSub, Int.reduceMul, Int.reduceNeg, Int.reduceToNat, Int.reducePow, Nat.reduceLT, Nat.reduceAdd, Nat.reduceSub, Nat.reduceLeDiff, Nat.reduceEqDiff, Nat.reduceMul, Int.cast_ofNat_Int, true_or, true_and, and_true, List.length_cons, List.length_nil, List.length_map, n_n, n_b, n_i, n_s, n_l, n_t, se_c, se_n, se_0, ar_b, ar_s, ar_g, Bool.or_true, Bool.true_or, Bool.or_false, Bool.false_or, Bool.and_true, Bool.true_and, Bool.and_false, Bool.false_and, Bool.not_true, Bool.not_false, Bool.not_not, decide_true, decide_false, int_app, filter_tt, eq_self, Option.map_some, Option.map_none, Option.isSome_some, Option.isSome_none, Bool.false_eq_true, if_false, if_true, Nat.zero_add, Int.zero_add, Int.add_zero, Int.sub_zero, List.map_nil, List.nil_append, List.append_nil, int_rev, int_take, int_drop, int_dropLast, int_appL, e_toI, e_is_integer_distances, e_is_integer_distancesN, e_is_sequence_distances, e_is_distances, e_is_integer_facts, e_is_sequence_facts, e_check_size, e_are_two_positions, e_is_fact_of, e_check_positions, e_distances_by, e_linked_offsets, e_representatives]))

/-! ### Partition_merge -/
def sp_Partition_merge : SpqM := fun p fs as k _ => ∃ (L : List Int) (i j a b : Int), fs = ldF L ∧ as = [.bor (.int i), .bor (.int j)] ∧ (0 ≤ i ∧ 0 ≤ j ∧ L[i.toNat]? = some a ∧ L[j.toNat]? = some b ∧ L.length ≤ 1000) ∧ k (ldF (mrg L a b)) (.bl (decide (a ≠ b)))
section
variable {P : Program} {w : World} {K : Fg} {mg : Str → Option Value} {base : Heap} {g : Gd}
theorem sc_Partition_merge : FnScope ["self", "one", "other", "keep", "drop", "leader"] ["self", "one", "other"] (defScope s_Partition_merge) := ⟨rfl, rfl, rfl, by decide +kernel, rfl, by decide +kernel, by decide +kernel⟩
theorem fn_Partition_merge (T : Tx K mg) : ∃ fd, FnG P w K mg base 1 (He.ma K (He.ga K "Partition") "merge") fd ["self", "one", "other"] (spM K mg g "Partition" sp_Partition_merge) ∧ FunD K "merge" "Partition.merge" (defArgs s_Partition_merge) (defBody s_Partition_merge) (defScope s_Partition_merge) [] [] (He.ma K (He.ga K "Partition") "merge") fd := by
  have sc := sc_Partition_merge
  obtain ⟨fd, Fn⟩ := T.f_Partition_merge
  refine ⟨fd, fn_qM (nm := "Partition") g Fn sc (by decide) (fun p fs as k x h => ?_) fun cdv A outer s H E hgd hr => ?_, Fn⟩
  · unfold sp_Partition_merge at h; first | (obtain ⟨rfl, rfl, _⟩ := h; rfl) | (obtain ⟨_, rfl, rfl, _⟩ := h; rfl) | (obtain ⟨_, _, rfl, rfl, _⟩ := h; rfl) | (obtain ⟨_, _, _, rfl, rfl, _⟩ := h; rfl) | (obtain ⟨_, _, _, _, rfl, rfl, _⟩ := h; rfl) | (obtain ⟨_, _, _, _, _, rfl, rfl, _⟩ := h; rfl)
  · have tk : Takes (cxOf (L2.CX P w) P w K mg base ["self", "one", "other", "keep", "drop", "leader"] "Partition.merge" (defScope s_Partition_merge) (He.ma K (He.ga K "Partition") "merge") cdv A outer s H E) (fun cls d _ H => E cls d H) := takes_of rfl rfl rfl rfl
    refine ⟨_, _, (qs_cons (qs_unpack [3, 4] (QN.qe (qn_cb cr_sortedI c_sortI (by exact rfl) T.z_sorted (by decide +kernel) (qa_cons (QN.qe (qn_lst (qa_cons (q_ix ix_Q o_ix (q_fld (nm := "Partition") T.n_Partition_leaders (q_var 0) (by rfl)) (q_var 1) (by exact fun _ _ => rfl)) (qa_cons (q_ix ix_Q o_ix (q_fld (nm := "Partition") T.n_Partition_leaders (q_var 0) (by rfl)) (q_var 2) (by exact fun _ _ => rfl)) qa_nil (by rfl)) (by rfl)))) qa_nil (by rfl)) (by decide) (by decide) (by rfl) (by rfl))) (qg_unl (n := 2) (by exact rfl) (qgs_cons (qg_name (i := 3) (by exact sc.nd) (by exact rfl) (by first | exact Or.inl rfl | exact Or.inr rfl) (by decide) (by first | exact .inl rfl | exact .inr rfl | assumption)) (qgs_cons (qg_name (i := 4) (by exact sc.nd) (by exact rfl) (by first | exact Or.inl rfl | exact Or.inr rfl) (by decide) (by first | exact .inl rfl | exact .inr rfl | assumption)) qgs_nil (by rfl)) (by rfl)) (by rfl) (by rfl)) (by rfl) (by rfl) (by rfl))
      (qs_cons (qs_if (qt_cmp (or_eqQ (by exact hr.units)) o_eq (q_var 3) (q_var 4) (by first | exact nomark _ | rfl)) (qs_one (qs_ret q_bl)) qs_nil)
      (qs_cons (qs_fput (i := 0) (nm := "Partition") T.n_Partition_leaders (by exact rfl) (by first | exact Or.inl rfl | exact Or.inr (Or.inl rfl) | exact Or.inr (Or.inr rfl)) (QN.qe (qn_lcB [("leader", 5)] (by exact rfl) (by exact sc.nd) (qi_seq (q_fld (nm := "Partition") T.n_Partition_leaders (q_var 0) (by rfl))) (blkOk_by (by kernel_rfl)) (fun _ _ _ _ _ => (qg_name (i := 5) (by exact sc.nd) (by exact rfl) (by first | exact Or.inl rfl | exact Or.inr rfl) (by decide) (by first | exact .inl rfl | exact .inr rfl | assumption))) (fun _ _ _ _ _ => qts_nil) (fun _ _ _ _ _ => (q_ifExp (qt_cmp (or_eqQ (by exact hr.units)) o_eq (q_var 5) (q_var 4) (by first | exact nomark _ | rfl)) (q_var 3) (q_var 5))) (by intro _; rfl) (by intros; rfl) (by intros; rfl) (by intros; rfl))) (by decide) (by decide) (by rfl))
      (qs_one (qs_ret q_bl))))), fun p fs as k x h => ?_⟩
    clear tk hr hgd Fn sc T
    obtain ⟨L, i, j, a, b, rfl, rfl, ⟨hi, hj, ha, hb, hl⟩, h⟩ := h
    unfold ldF
    walk_at "q"
    refine ⟨.int a, by rw [atI_pos hi, List.getElem?_map, ha]; rfl, ?_⟩
    walk_at "q"
    refine ⟨.int b, by rw [atI_pos hj, List.getElem?_map, hb]; rfl, ?_⟩
    walk_at "q"
    rw [show [D.int a, D.int b] = ([a, b] : List Int).map D.int from rfl, f_sortI]
    refine fun zs hp hs => ?_
    rw [sort2 hp hs, show ([min a b, max a b] : List Int).map D.int = [D.int (min a b), D.int (max a b)] from rfl]
    walk_at "q"
    refine cIf_i (fun e => ?_) (fun e => ?_)
    · have eab : a = b := by omega
      subst eab
      rw [mrg_same, decide_eq_false (by simp)] at h
      walk_at "q"
      exact ⟨_, rfl, h⟩
    walk_at "q"
    refine comp_mapI (fun e => if e = max a b then min a b else e) (fun n e acc X he hn hacc hX => ?_) ?_
    · walk_at "q"
      refine cIf_i (fun e2 => ?_) (fun e2 => ?_)
      · walk_at "q"
        rw [if_pos e2] at hX
        exact ⟨by omega, hX⟩
      · walk_at "q"
        rw [if_neg e2] at hX
        exact ⟨by omega, hX⟩
    walk_at "q"
    rw [decide_eq_true (by omega)] at h
    exact ⟨_, rfl, h⟩
theorem cal_Partition_merge (T : Tx K mg) : MCal P w K mg base g 1 "Partition" "merge" [] sp_Partition_merge := by
  obtain ⟨fd, G, Fn⟩ := fn_Partition_merge (P := P) (w := w) (base := base) (g := g) T
  exact ⟨_, fd, _, [], G, T.m_Partition_merge, Fn.bindsN fun _ _ _ _ _ _ us hl => match us, hl with | [_, _, _], _ => rfl, .nil, rfl⟩
end

/-! ### Partition_copy_links -/
def sp_Partition_copy_links : SpqM := fun p fs as k _ => ∃ (L : List Int) (s t l : Nat), fs = ldF L ∧ as = [.bor (.int s), .bor (.int t), .bor (.int l)] ∧ (s + l ≤ L.length ∧ t + l ≤ L.length ∧ L.length ≤ 1000) ∧ ∀ (L2 : List Int) (c : Bool), Linked L s t l L2 c → k (ldF L2) (.bl c)
section
variable {P : Program} {w : World} {K : Fg} {mg : Str → Option Value} {base : Heap} {g : Gd}
theorem sc_Partition_copy_links : FnScope ["self", "source", "target", "length", "changed", "one", "other"] ["self", "source", "target", "length"] (defScope s_Partition_copy_links) := ⟨rfl, rfl, rfl, by decide +kernel, rfl, by decide +kernel, by decide +kernel⟩
theorem fn_Partition_copy_links (T : Tx K mg) : ∃ fd, FnG P w K mg base 2 (He.ma K (He.ga K "Partition") "copy_links") fd ["self", "source", "target", "length"] (spM K mg g "Partition" sp_Partition_copy_links) ∧ FunD K "copy_links" "Partition.copy_links" (defArgs s_Partition_copy_links) (defBody s_Partition_copy_links) (defScope s_Partition_copy_links) [] [] (He.ma K (He.ga K "Partition") "copy_links") fd := by
  have sc := sc_Partition_copy_links
  have C_Partition_merge : MCal P w K mg base g 1 "Partition" "merge" [] sp_Partition_merge := cal_Partition_merge T
  have C_distances_by : Cal P w K mg base g 1 "distances_by" [] sp_distances_by := cal_distances_by T
  have C_linked_offsets : Cal P w K mg base g 1 "linked_offsets" [] sp_linked_offsets := cal_linked_offsets T
  obtain ⟨fd, Fn⟩ := T.f_Partition_copy_links
  refine ⟨fd, fn_qM (nm := "Partition") g Fn sc (by decide) (fun p fs as k x h => ?_) fun cdv A outer s H E hgd hr => ?_, Fn⟩
  · unfold sp_Partition_copy_links at h; first | (obtain ⟨rfl, rfl, _⟩ := h; rfl) | (obtain ⟨_, rfl, rfl, _⟩ := h; rfl) | (obtain ⟨_, _, rfl, rfl, _⟩ := h; rfl) | (obtain ⟨_, _, _, rfl, rfl, _⟩ := h; rfl) | (obtain ⟨_, _, _, _, rfl, rfl, _⟩ := h; rfl) | (obtain ⟨_, _, _, _, _, rfl, rfl, _⟩ := h; rfl)
  · have tk : Takes (cxOf (L2.CX P w) P w K mg base ["self", "source", "target", "length", "changed", "one", "other"] "Partition.copy_links" (defScope s_Partition_copy_links) (He.ma K (He.ga K "Partition") "copy_links") cdv A outer s H E) (fun cls d _ H => E cls d H) := takes_of rfl rfl rfl rfl
    refine ⟨_, _, (qs_cons (qs_set (i := 4) (by exact sc.nd) (by exact rfl) (Or.inl rfl) q_bl (by rfl) (by first | exact .inl rfl | exact .inr rfl | assumption))
      (qs_cons (qs_for [5, 6] (qi_seq (QN.qe (qn_call [.bor] C_linked_offsets (by exact hgd) (by exact hr) (by omega) (by exact rfl) (qa_cons (QN.qe (qn_call [.bor] C_distances_by (by exact hgd) (by exact hr) (by omega) (by exact rfl) (qa_cons (QN.qe (qn_sl sl_Q o_sl (q_fld (nm := "Partition") T.n_Partition_leaders (q_var 0) (by rfl)) (qo_some (q_var 1)) (qo_some (QN.qe (qn_opR or_addQ o_add (q_var 1) (q_var 3)))))) qa_nil (by rfl)) (by decide) (by rfl) (by rfl))) qa_nil (by rfl)) (by decide) (by rfl) (by rfl)))) (qg_tup (n := 2) (by exact rfl) (qgs_cons (qg_name (i := 5) (by exact sc.nd) (by exact rfl) (by first | exact Or.inl rfl | exact Or.inr rfl) (by decide) (by first | exact .inl rfl | exact .inr rfl | assumption)) (qgs_cons (qg_name (i := 6) (by exact sc.nd) (by exact rfl) (by first | exact Or.inl rfl | exact Or.inr rfl) (by decide) (by first | exact .inl rfl | exact .inr rfl | assumption)) qgs_nil (by rfl)) (by rfl)) (by rfl) (by rfl))
      (qs_one (qs_set (i := 4) (by exact sc.nd) (by exact rfl) (Or.inl rfl) (q_or (q_callM (i := 0) [.bor, .bor] T.o_Partition C_Partition_merge (by exact hgd) (by exact hr) (by omega) (by exact rfl) (by first | exact Or.inl rfl | exact Or.inr (Or.inl rfl) | exact Or.inr (Or.inr rfl)) (qa_cons (QN.qe (qn_opR or_addQ o_add (q_var 2) (q_var 5))) (qa_cons (QN.qe (qn_opR or_addQ o_add (q_var 2) (q_var 6))) qa_nil (by rfl)) (by rfl)) (by decide) (by decide) (by rfl) (by rfl) (by rfl)) (q_one (q_var 4))) (by rfl) (by first | exact .inl rfl | exact .inr rfl | assumption))) (passes_of (by exact rfl)) (by rfl) (by intro _; rfl))
      (qs_one (qs_ret (q_var 4))))), fun p fs as k x h => ?_⟩
    clear tk hr hgd Fn sc T
    obtain ⟨L, s, t, l, rfl, rfl, ⟨h1, h2, h3⟩, h⟩ := h
    unfold ldF
    walk_at "q"
    rw [cut_win (by omega) (by omega), Int.toNat_natCast, Int.toNat_natCast, int_drop, int_take, show (L.drop s).take l = segN L s l from rfl]
    have hsl := segN_len h1
    walk_at "q"
    refine ⟨by omega, ?_⟩
    refine ⟨segN L s l, .inl rfl, by omega, ?_⟩
    unfold lnkD
    walk_at "q"
    have hll := lnks_len (segN L s l)
    refine loopJ (fun m env => ∃ (M : List Int) (c : Bool) (s5 s6 : Sl), env = [.own (.obj "Partition" p (ldF M)), .bor (.int s), .bor (.int t), .bor (.int l), .sh (.bl c), s5, s6] ∧ Grew L M c (Cps s t l) ∧ ∀ pq ∈ (lnks (segN L s l)).take m, M[t + pq.1]? = M[t + pq.2]?) ⟨L, false, _, _, rfl, Grew.refl L _, by simp⟩ (fun m d env X hd hJ hX => ?_) fun env hJ => ?_
    rotate_left
    · obtain ⟨M, c, s5, s6, rfl, g, hm⟩ := hJ
      unfold ldF
      walk_at "q"
      rw [List.length_map, List.take_length] at hm
      exact ⟨_, rfl, h M c (linked_of h1 g hm)⟩
    obtain ⟨M, c, s5, s6, rfl, g, hm⟩ := hJ
    rw [List.getElem?_map] at hd
    cases hpq : (lnks (segN L s l))[m]? with
    | none => rw [hpq] at hd; cases hd
    | some pq =>
    rw [hpq] at hd
    cases hd
    obtain ⟨a, b⟩ := pq
    obtain ⟨z1, z2, z3, z4⟩ := lnks_mem.mp (List.mem_of_getElem? hpq)
    unfold ldF Q.prD
    walk_at "q"
    have ml := g.len
    have ia : t + a < M.length := by omega
    have ib : t + b < M.length := by omega
    have ha : M[t + a]? = some M[t + a] := List.getElem?_eq_getElem ia
    have hb : M[t + b]? = some M[t + b] := List.getElem?_eq_getElem ib
    have g2 := link_step h1 h2 g (List.mem_of_getElem? hpq) ha hb
    generalize M[t + a] = x at ha g2
    generalize M[t + b] = y at hb g2
    refine ⟨ldF_no (by decide +kernel), M, _, _, x, y, rfl, rfl, ⟨by omega, by omega, by rw [show ((t : Int) + (a : Int)).toNat = t + a by omega]; exact ha, by rw [show ((t : Int) + (b : Int)).toNat = t + b by omega]; exact hb, by omega⟩, ?_⟩
    have hm2 : ∀ pq ∈ (lnks (segN L s l)).take (m + 1), (mrg M x y)[t + pq.1]? = (mrg M x y)[t + pq.2]? := fun pq hq => by
      rw [List.take_add_one, hpq] at hq
      rcases List.mem_append.mp hq with hq | hq
      · exact mrg_keep (hm pq hq)
      · cases List.mem_singleton.mp (show pq ∈ [(a, b)] from hq)
        exact mrg_join ha hb
    unfold ldF
    walk_at "q"
    by_cases e : x ≠ y
    · rw [decide_eq_true e, Bool.true_or] at g2
      refine cIf_l (by first | exact decide_eq_true e | (simp [e]; done)) ?_
      walk_at "q"
      exact hX _ ⟨_, _, _, _, rfl, g2, hm2⟩
    · rw [decide_eq_false e, Bool.false_or] at g2
      refine cIf_r (by first | exact decide_eq_false e | (simp [e]; done)) ?_
      walk_at "q"
      exact hX _ ⟨_, _, _, _, rfl, g2, hm2⟩
theorem cal_Partition_copy_links (T : Tx K mg) : MCal P w K mg base g 2 "Partition" "copy_links" [] sp_Partition_copy_links := by
  obtain ⟨fd, G, Fn⟩ := fn_Partition_copy_links (P := P) (w := w) (base := base) (g := g) T
  exact ⟨_, fd, _, [], G, T.m_Partition_copy_links, Fn.bindsN fun _ _ _ _ _ _ us hl => match us, hl with | [_, _, _, _], _ => rfl, .nil, rfl⟩
end

/-! ### Partition_copy_both_ways -/
def sp_Partition_copy_both_ways : SpqM := fun p fs as k _ => ∃ (L : List Int) (i j l : Nat) (d : D), fs = ldF L ∧ as = [.bor d] ∧ (FcAt (.eqv i j l) d ∧ i + l ≤ L.length ∧ j + l ≤ L.length ∧ L.length ≤ 1000) ∧ ∀ (L2 : List Int) (c : Bool), Both L i j l L2 c → k (ldF L2) (.bl c)
section
variable {P : Program} {w : World} {K : Fg} {mg : Str → Option Value} {base : Heap} {g : Gd}
theorem sc_Partition_copy_both_ways : FnScope ["self", "fact", "changed"] ["self", "fact"] (defScope s_Partition_copy_both_ways) := ⟨rfl, rfl, rfl, by decide +kernel, rfl, by decide +kernel, by decide +kernel⟩
theorem fn_Partition_copy_both_ways (T : Tx K mg) : ∃ fd, FnG P w K mg base 3 (He.ma K (He.ga K "Partition") "copy_both_ways") fd ["self", "fact"] (spM K mg g "Partition" sp_Partition_copy_both_ways) ∧ FunD K "copy_both_ways" "Partition.copy_both_ways" (defArgs s_Partition_copy_both_ways) (defBody s_Partition_copy_both_ways) (defScope s_Partition_copy_both_ways) [] [] (He.ma K (He.ga K "Partition") "copy_both_ways") fd := by
  have sc := sc_Partition_copy_both_ways
  have C_Partition_copy_links : MCal P w K mg base g 2 "Partition" "copy_links" [] sp_Partition_copy_links := cal_Partition_copy_links T
  obtain ⟨fd, Fn⟩ := T.f_Partition_copy_both_ways
  refine ⟨fd, fn_qM (nm := "Partition") g Fn sc (by decide) (fun p fs as k x h => ?_) fun cdv A outer s H E hgd hr => ?_, Fn⟩
  · unfold sp_Partition_copy_both_ways at h; first | (obtain ⟨rfl, rfl, _⟩ := h; rfl) | (obtain ⟨_, rfl, rfl, _⟩ := h; rfl) | (obtain ⟨_, _, rfl, rfl, _⟩ := h; rfl) | (obtain ⟨_, _, _, rfl, rfl, _⟩ := h; rfl) | (obtain ⟨_, _, _, _, rfl, rfl, _⟩ := h; rfl) | (obtain ⟨_, _, _, _, _, rfl, rfl, _⟩ := h; rfl)
  · have tk : Takes (cxOf (L2.CX P w) P w K mg base ["self", "fact", "changed"] "Partition.copy_both_ways" (defScope s_Partition_copy_both_ways) (He.ma K (He.ga K "Partition") "copy_both_ways") cdv A outer s H E) (fun cls d _ H => E cls d H) := takes_of rfl rfl rfl rfl
    refine ⟨_, _, (qs_cons (qs_set (i := 2) (by exact sc.nd) (by exact rfl) (Or.inl rfl) (q_callM (i := 0) [.bor, .bor, .bor] T.o_Partition C_Partition_copy_links (by exact hgd) (by exact hr) (by omega) (by exact rfl) (by first | exact Or.inl rfl | exact Or.inr (Or.inl rfl) | exact Or.inr (Or.inr rfl)) (qa_cons (q_ix ix_Q o_ix (q_var 1) q_int (by exact fun _ _ => rfl)) (qa_cons (q_ix ix_Q o_ix (q_var 1) q_int (by exact fun _ _ => rfl)) (qa_cons (q_ix ix_Q o_ix (q_var 1) q_int (by exact fun _ _ => rfl)) qa_nil (by rfl)) (by rfl)) (by rfl)) (by decide) (by decide) (by rfl) (by rfl) (by rfl)) (by rfl) (by first | exact .inl rfl | exact .inr rfl | assumption))
      (qs_one (qs_ret (q_or (q_callM (i := 0) [.bor, .bor, .bor] T.o_Partition C_Partition_copy_links (by exact hgd) (by exact hr) (by omega) (by exact rfl) (by first | exact Or.inl rfl | exact Or.inr (Or.inl rfl) | exact Or.inr (Or.inr rfl)) (qa_cons (q_ix ix_Q o_ix (q_var 1) q_int (by exact fun _ _ => rfl)) (qa_cons (q_ix ix_Q o_ix (q_var 1) q_int (by exact fun _ _ => rfl)) (qa_cons (q_ix ix_Q o_ix (q_var 1) q_int (by exact fun _ _ => rfl)) qa_nil (by rfl)) (by rfl)) (by rfl)) (by decide) (by decide) (by rfl) (by rfl) (by rfl)) (q_one (q_var 2)))))), fun p fs as k x h => ?_⟩
    clear tk hr hgd Fn sc T
    obtain ⟨L, i, j, l, d, rfl, rfl, ⟨hd, h1, h2, h3⟩, h⟩ := h
    have hd2 : d = .lst [.str (Str.ofString "equivalent"), .int i, .int j, .int l] ∨ d = .tup [.str (Str.ofString "equivalent"), .int i, .int j, .int l] := by
      rcases hd with hd | hd <;> cases hd
      · exact .inl rfl
      · exact .inr rfl
    rcases hd2 with rfl | rfl
    · unfold ldF
      walk_at "q"
      refine ⟨ldF_no (by decide +kernel), L, i, j, l, rfl, rfl, ⟨h1, h2, h3⟩, fun M c g => ?_⟩
      have gl := g.len
      unfold ldF
      walk_at "q"
      refine ⟨ldF_no (by decide +kernel), M, j, i, l, rfl, rfl, ⟨by omega, by omega, by omega⟩, fun L2 c2 g2 => ?_⟩
      have hb := both_of g g2
      unfold ldF
      walk_at "q"
      cases c2 with
      | true =>
        walk_at "q"
        exact ⟨_, rfl, h _ _ hb⟩
      | false =>
        walk_at "q"
        exact ⟨_, rfl, h _ _ hb⟩
    · unfold ldF
      walk_at "q"
      refine ⟨ldF_no (by decide +kernel), L, i, j, l, rfl, rfl, ⟨h1, h2, h3⟩, fun M c g => ?_⟩
      have gl := g.len
      unfold ldF
      walk_at "q"
      refine ⟨ldF_no (by decide +kernel), M, j, i, l, rfl, rfl, ⟨by omega, by omega, by omega⟩, fun L2 c2 g2 => ?_⟩
      have hb := both_of g g2
      unfold ldF
      walk_at "q"
      cases c2 with
      | true =>
        walk_at "q"
        exact ⟨_, rfl, h _ _ hb⟩
      | false =>
        walk_at "q"
        exact ⟨_, rfl, h _ _ hb⟩
theorem cal_Partition_copy_both_ways (T : Tx K mg) : MCal P w K mg base g 3 "Partition" "copy_both_ways" [] sp_Partition_copy_both_ways := by
  obtain ⟨fd, G, Fn⟩ := fn_Partition_copy_both_ways (P := P) (w := w) (base := base) (g := g) T
  exact ⟨_, fd, _, [], G, T.m_Partition_copy_both_ways, Fn.bindsN fun _ _ _ _ _ _ us hl => match us, hl with | [_, _], _ => rfl, .nil, rfl⟩
end

/-! ### Partition_are_equal -/
def sp_Partition_are_equal : Spq := fun as k _ => ∃ (L : List Int) (p : Addr) (i j a b : Int), as = [.bor (.obj "Partition" p (ldF L)), .bor (.int i), .bor (.int j)] ∧ (0 ≤ i ∧ 0 ≤ j ∧ L[i.toNat]? = some a ∧ L[j.toNat]? = some b) ∧ k (.sh (.bl (decide (a = b))))
section
variable {P : Program} {w : World} {K : Fg} {mg : Str → Option Value} {base : Heap} {g : Gd}
theorem sc_Partition_are_equal : FnScope ["self", "one", "other"] ["self", "one", "other"] (defScope s_Partition_are_equal) := ⟨rfl, rfl, rfl, by decide +kernel, rfl, by decide +kernel, by decide +kernel⟩
theorem fn_Partition_are_equal (T : Tx K mg) : ∃ fd, FnG P w K mg base 1 (He.ma K (He.ga K "Partition") "are_equal") fd ["self", "one", "other"] (spQ K mg g sp_Partition_are_equal) ∧ FunD K "are_equal" "Partition.are_equal" (defArgs s_Partition_are_equal) (defBody s_Partition_are_equal) (defScope s_Partition_are_equal) [] [] (He.ma K (He.ga K "Partition") "are_equal") fd := by
  have sc := sc_Partition_are_equal
  obtain ⟨fd, Fn⟩ := T.f_Partition_are_equal
  refine ⟨fd, fn_q g Fn sc (by decide) (fun as k x h => ?_) fun cdv A outer s H E hgd hr => ?_, Fn⟩
  · unfold sp_Partition_are_equal at h; first | (split at h <;> first | rfl | exact h.elim) | (obtain ⟨_, rfl, _⟩ := h; rfl) | (obtain ⟨_, _, rfl, _⟩ := h; rfl) | (obtain ⟨_, _, _, rfl, _⟩ := h; rfl) | (obtain ⟨_, _, _, _, rfl, _⟩ := h; rfl) | (obtain ⟨_, _, _, _, _, rfl, _⟩ := h; rfl) | (obtain ⟨_, _, _, _, _, _, rfl, _⟩ := h; rfl)
  · have tk : Takes (cxOf (L2.CX P w) P w K mg base ["self", "one", "other"] "Partition.are_equal" (defScope s_Partition_are_equal) (He.ma K (He.ga K "Partition") "are_equal") cdv A outer s H E) (fun cls d _ H => E cls d H) := takes_of rfl rfl rfl rfl
    refine ⟨_, _, (qs_one (qs_ret (q_cmp (or_eqQ (by exact hr.units)) o_eq (q_ix ix_Q o_ix (q_fld (nm := "Partition") T.n_Partition_leaders (q_var 0) (by rfl)) (q_var 1) (by exact fun _ _ => rfl)) (q_ix ix_Q o_ix (q_fld (nm := "Partition") T.n_Partition_leaders (q_var 0) (by rfl)) (q_var 2) (by exact fun _ _ => rfl)) (by first | exact nomark _ | rfl)))), fun as k x h => ?_⟩
    clear tk hr hgd Fn sc T
    obtain ⟨L, p, i, j, a, b, rfl, ⟨hi, hj, ha, hb⟩, h⟩ := h
    unfold ldF
    walk_at "q"
    refine ⟨.int a, by rw [atI_pos hi, List.getElem?_map, ha]; rfl, ?_⟩
    walk_at "q"
    refine ⟨.int b, by rw [atI_pos hj, List.getElem?_map, hb]; rfl, ?_⟩
    walk_at "q"
    exact h
theorem cal_Partition_are_equal (T : Tx K mg) : RCal P w K mg base g 1 "Partition" "are_equal" [] sp_Partition_are_equal := by
  obtain ⟨fd, G, Fn⟩ := fn_Partition_are_equal (P := P) (w := w) (base := base) (g := g) T
  exact ⟨_, fd, _, [], G, T.m_Partition_are_equal, Fn.bindsN fun _ _ _ _ _ _ us hl => match us, hl with | [_, _, _], _ => rfl, .nil, rfl⟩
end

/-! ### Partition_distances -/
def sp_Partition_distances : Spq := fun as k _ => ∃ (L : List Int) (p : Addr), as = [.bor (.obj "Partition" p (ldF L))] ∧ L.length ≤ 1000 ∧ k (.own (.lst ((dist L).map .int)))
section
variable {P : Program} {w : World} {K : Fg} {mg : Str → Option Value} {base : Heap} {g : Gd}
theorem sc_Partition_distances : FnScope ["self"] ["self"] (defScope s_Partition_distances) := ⟨rfl, rfl, rfl, by decide +kernel, rfl, by decide +kernel, by decide +kernel⟩
theorem fn_Partition_distances (T : Tx K mg) : ∃ fd, FnG P w K mg base 2 (He.ma K (He.ga K "Partition") "distances") fd ["self"] (spQ K mg g sp_Partition_distances) ∧ FunD K "distances" "Partition.distances" (defArgs s_Partition_distances) (defBody s_Partition_distances) (defScope s_Partition_distances) [] [] (He.ma K (He.ga K "Partition") "distances") fd := by
  have sc := sc_Partition_distances
  have C_distances_by : Cal P w K mg base g 1 "distances_by" [] sp_distances_by := cal_distances_by T
  obtain ⟨fd, Fn⟩ := T.f_Partition_distances
  refine ⟨fd, fn_q g Fn sc (by decide) (fun as k x h => ?_) fun cdv A outer s H E hgd hr => ?_, Fn⟩
  · unfold sp_Partition_distances at h; first | (split at h <;> first | rfl | exact h.elim) | (obtain ⟨_, rfl, _⟩ := h; rfl) | (obtain ⟨_, _, rfl, _⟩ := h; rfl) | (obtain ⟨_, _, _, rfl, _⟩ := h; rfl) | (obtain ⟨_, _, _, _, rfl, _⟩ := h; rfl) | (obtain ⟨_, _, _, _, _, rfl, _⟩ := h; rfl) | (obtain ⟨_, _, _, _, _, _, rfl, _⟩ := h; rfl)
  · have tk : Takes (cxOf (L2.CX P w) P w K mg base ["self"] "Partition.distances" (defScope s_Partition_distances) (He.ma K (He.ga K "Partition") "distances") cdv A outer s H E) (fun cls d _ H => E cls d H) := takes_of rfl rfl rfl rfl
    refine ⟨_, _, (qs_one (qs_retN (qn_call [.bor] C_distances_by (by exact hgd) (by exact hr) (by omega) (by exact rfl) (qa_cons (q_fld (nm := "Partition") T.n_Partition_leaders (q_var 0) (by rfl)) qa_nil (by rfl)) (by decide) (by rfl) (by rfl)))), fun as k x h => ?_⟩
    clear tk hr hgd Fn sc T
    obtain ⟨L, p, rfl, hl, h⟩ := h
    unfold ldF
    walk_at "q"
    exact ⟨by omega, h⟩
theorem cal_Partition_distances (T : Tx K mg) : RCal P w K mg base g 2 "Partition" "distances" [] sp_Partition_distances := by
  obtain ⟨fd, G, Fn⟩ := fn_Partition_distances (P := P) (w := w) (base := base) (g := g) T
  exact ⟨_, fd, _, [], G, T.m_Partition_distances, Fn.bindsN fun _ _ _ _ _ _ us hl => match us, hl with | [_], _ => rfl, .nil, rfl⟩
end

/-! ### Partition___init__ -/
def sp_Partition___init__ : SpqM := fun p fs as k _ => ∃ (n : Nat) (fc : List Fc) (ds : List D) (d : D), fs = [] ∧ as = [.bor (.int n), .bor d] ∧ ((d = .lst ds ∨ d = .tup ds) ∧ FcsAt fc ds ∧ (∀ f ∈ fc, FcOk n f) ∧ n ≤ 100 ∧ ds.length ≤ 100) ∧ ∀ L : List Int, Closed n fc L → k (ldF L) .non
section
variable {P : Program} {w : World} {K : Fg} {mg : Str → Option Value} {base : Heap} {g : Gd}
theorem sc_Partition___init__ : FnScope ["self", "size", "facts", "fact", "equivalences", "one", "other"] ["self", "size", "facts"] (defScope s_Partition___init__) := ⟨rfl, rfl, rfl, by decide +kernel, rfl, by decide +kernel, by decide +kernel⟩
theorem fn_Partition___init__ (T : Tx K mg) : ∃ fd, FnG P w K mg base 4 (He.ma K (He.ga K "Partition") "__init__") fd ["self", "size", "facts"] (spM K mg g "Partition" sp_Partition___init__) ∧ FunD K "__init__" "Partition.__init__" (defArgs s_Partition___init__) (defBody s_Partition___init__) (defScope s_Partition___init__) [] [] (He.ma K (He.ga K "Partition") "__init__") fd := by
  have sc := sc_Partition___init__
  have C_Partition_copy_both_ways : MCal P w K mg base g 3 "Partition" "copy_both_ways" [] sp_Partition_copy_both_ways := cal_Partition_copy_both_ways T
  have C_Partition_merge : MCal P w K mg base g 1 "Partition" "merge" [] sp_Partition_merge := cal_Partition_merge T
  have C_linked_offsets : Cal P w K mg base g 1 "linked_offsets" [] sp_linked_offsets := cal_linked_offsets T
  obtain ⟨t_EQUIVALENT, h_EQUIVALENT⟩ := T.c_EQUIVALENT
  obtain ⟨t_SAME, h_SAME⟩ := T.c_SAME
  obtain ⟨t_WINDOW, h_WINDOW⟩ := T.c_WINDOW
  obtain ⟨fd, Fn⟩ := T.f_Partition___init__
  refine ⟨fd, fn_qM (nm := "Partition") g Fn sc (by decide) (fun p fs as k x h => ?_) fun cdv A outer s H E hgd hr => ?_, Fn⟩
  · unfold sp_Partition___init__ at h; first | (obtain ⟨rfl, rfl, _⟩ := h; rfl) | (obtain ⟨_, rfl, rfl, _⟩ := h; rfl) | (obtain ⟨_, _, rfl, rfl, _⟩ := h; rfl) | (obtain ⟨_, _, _, rfl, rfl, _⟩ := h; rfl) | (obtain ⟨_, _, _, _, rfl, rfl, _⟩ := h; rfl) | (obtain ⟨_, _, _, _, _, rfl, rfl, _⟩ := h; rfl)
  · have tk : Takes (cxOf (L2.CX P w) P w K mg base ["self", "size", "facts", "fact", "equivalences", "one", "other"] "Partition.__init__" (defScope s_Partition___init__) (He.ma K (He.ga K "Partition") "__init__") cdv A outer s H E) (fun cls d _ H => E cls d H) := takes_of rfl rfl rfl rfl
    refine ⟨_, _, (qs_cons (qs_fput (i := 0) (nm := "Partition") T.n_Partition_leaders (by exact rfl) (by first | exact Or.inl rfl | exact Or.inr (Or.inl rfl) | exact Or.inr (Or.inr rfl)) (QN.qe (qn_lstRg1 (by exact rfl) (by exact rfl) T.z_list (by exact rfl) T.z_range (q_var 1) (by rfl) (by rfl))) (by decide) (by decide) (by rfl))
      (qs_cons (qs_for [3] (qi_seq (q_var 2)) (qg_name (i := 3) (by exact sc.nd) (by exact rfl) (by first | exact Or.inl rfl | exact Or.inr rfl) (by decide) (by first | exact .inl rfl | exact .inr rfl | assumption))
      (qs_one (qs_if (qt_cmp (or_eqQ (by exact hr.units)) o_eq (q_ix ix_Q o_ix (q_var 3) q_int (by exact fun _ _ => rfl)) (q_glob (v := V.str (Str.ofString "same")) (d := D.str (Str.ofString "same")) (by exact rfl) h_SAME ⟨_, rfl⟩ (by exact rfl) (by decide)) (by first | exact nomark _ | rfl)) (qs_one (qs_expr (q_callM (i := 0) [.bor, .bor] T.o_Partition C_Partition_merge (by exact hgd) (by exact hr) (by omega) (by exact rfl) (by first | exact Or.inl rfl | exact Or.inr (Or.inl rfl) | exact Or.inr (Or.inr rfl)) (qa_cons (q_ix ix_Q o_ix (q_var 3) q_int (by exact fun _ _ => rfl)) (qa_cons (q_ix ix_Q o_ix (q_var 3) q_int (by exact fun _ _ => rfl)) qa_nil (by rfl)) (by rfl)) (by decide) (by decide) (by rfl) (by rfl) (by rfl)) (by rfl))) (qs_one (qs_if (qt_cmp (or_eqQ (by exact hr.units)) o_eq (q_ix ix_Q o_ix (q_var 3) q_int (by exact fun _ _ => rfl)) (q_glob (v := V.str (Str.ofString "window")) (d := D.str (Str.ofString "window")) (by exact rfl) h_WINDOW ⟨_, rfl⟩ (by exact rfl) (by decide)) (by first | exact nomark _ | rfl)) (qs_one (qs_for [5, 6] (qi_seq (QN.qe (qn_call [.bor] C_linked_offsets (by exact hgd) (by exact hr) (by omega) (by exact rfl) (qa_cons (q_ix ix_Q o_ix (q_var 3) q_int (by exact fun _ _ => rfl)) qa_nil (by rfl)) (by decide) (by rfl) (by rfl)))) (qg_tup (n := 2) (by exact rfl) (qgs_cons (qg_name (i := 5) (by exact sc.nd) (by exact rfl) (by first | exact Or.inl rfl | exact Or.inr rfl) (by decide) (by first | exact .inl rfl | exact .inr rfl | assumption)) (qgs_cons (qg_name (i := 6) (by exact sc.nd) (by exact rfl) (by first | exact Or.inl rfl | exact Or.inr rfl) (by decide) (by first | exact .inl rfl | exact .inr rfl | assumption)) qgs_nil (by rfl)) (by rfl)) (by rfl) (by rfl))
      (qs_one (qs_expr (q_callM (i := 0) [.bor, .bor] T.o_Partition C_Partition_merge (by exact hgd) (by exact hr) (by omega) (by exact rfl) (by first | exact Or.inl rfl | exact Or.inr (Or.inl rfl) | exact Or.inr (Or.inr rfl)) (qa_cons (QN.qe (qn_opR or_addQ o_add (q_ix ix_Q o_ix (q_var 3) q_int (by exact fun _ _ => rfl)) (q_var 5))) (qa_cons (QN.qe (qn_opR or_addQ o_add (q_ix ix_Q o_ix (q_var 3) q_int (by exact fun _ _ => rfl)) (q_var 6))) qa_nil (by rfl)) (by rfl)) (by decide) (by decide) (by rfl) (by rfl) (by rfl)) (by rfl))) (passes_of (by exact rfl)) (by rfl) (by intro _; rfl))) qs_nil)))) (passes_of (by exact rfl)) (by rfl) (by intro _; rfl))
      (qs_cons (qs_setLcB (i := 4) [("fact", 3)] (by exact rfl) (by exact sc.nd) (by exact rfl) (by exact rfl) (sw_true (by exact rfl) (by exact rfl) (by exact rfl) (by decide +kernel)) (qi_seq (q_var 2)) (blkOk_by (by kernel_rfl)) (fun _ _ _ _ _ => (qg_name (i := 3) (by exact sc.nd) (by exact rfl) (by first | exact Or.inl rfl | exact Or.inr rfl) (by decide) (by first | exact .inl rfl | exact .inr rfl | assumption))) (fun _ _ _ _ _ => (qts_one (qt_cmp (or_eqQ (by exact hr.units)) o_eq (q_ix ix_Q o_ix (q_var 3) q_int (by exact fun _ _ => rfl)) (q_glob (v := V.str (Str.ofString "equivalent")) (d := D.str (Str.ofString "equivalent")) (by exact rfl) h_EQUIVALENT ⟨_, rfl⟩ (by exact rfl) (by decide)) (by first | exact nomark _ | rfl)))) (fun _ _ _ _ _ => (q_var 3)) (by intro _; rfl) (by intros; rfl) (by intros; rfl) (by intros; rfl))
      (qs_one (qs_while (qt_val (q_callB (cr_any (by exact rfl)) c_any (by exact rfl) T.z_any (by decide +kernel) (qa_cons (QN.qe (qn_lcB [("fact", 3)] (by exact rfl) (by exact sc.nd) (qi_seq (q_var 4)) (blkOk_by (by kernel_rfl)) (fun _ _ _ _ _ => (qg_name (i := 3) (by exact sc.nd) (by exact rfl) (by first | exact Or.inl rfl | exact Or.inr rfl) (by decide) (by first | exact .inl rfl | exact .inr rfl | assumption))) (fun _ _ _ _ _ => qts_nil) (fun _ _ _ _ _ => (q_callM (i := 0) [.bor] T.o_Partition C_Partition_copy_both_ways (by exact hgd) (by exact hr) (by omega) (by exact rfl) (by first | exact Or.inl rfl | exact Or.inr (Or.inl rfl) | exact Or.inr (Or.inr rfl)) (qa_cons (q_var 3) qa_nil (by rfl)) (by decide) (by decide) (by rfl) (by rfl) (by rfl))) (by intro _; rfl) (by intros; rfl) (by intros; rfl) (by intros; rfl))) qa_nil (by rfl)) (by decide) (by decide) (by rfl) (by rfl)) (by intro _; rfl)) (qs_one qs_pass) (passes_of (by exact rfl))))))), fun p fs as k x h => ?_⟩
    clear tk hr hgd Fn sc T
    obtain ⟨n, fc, ds, d, rfl, rfl, ⟨hd, hfc, hok, hn, hl⟩, h⟩ := h
    rcases hd with rfl | rfl
    · walk_at "q"
      refine ⟨by omega, by omega, ?_⟩
      rw [ranged_upto, Int.toNat_natCast]
      walk_at "q"
      obtain ⟨s2, hs2⟩ : ∃ s2 : Sl, Sl.bor (D.lst ds) = s2 := ⟨_, rfl⟩
      rw [hs2]
      refine loopJ (fun m env => ∃ (L : List Int) (s3 s4 s5 s6 : Sl), env = [.own (.obj "Partition" p (ldF L)), .bor (.int n), s2, s3, s4, s5, s6] ∧ Half n fc m L) ⟨upto n, _, _, _, _, rfl, half_start n fc⟩ (fun m d env X hd hJ hX => ?_) fun env hJ => ?_
      · obtain ⟨L, s3, s4, s5, s6, rfl, hH⟩ := hJ
        obtain ⟨f, hf, hat⟩ := hfc.at hd
        have hmem := List.mem_of_getElem? hf
        have ho := hok f hmem
        have hLn := hH.len
        rcases hat with hat | hat <;> cases hat
        · rename_i i j
          obtain ⟨o1, o2, o3⟩ := ho
          have ha : L[i]? = some L[i] := List.getElem?_eq_getElem (by omega)
          have hb : L[j]? = some L[j] := List.getElem?_eq_getElem (by omega)
          generalize L[i] = a at ha
          generalize L[j] = b at hb
          unfold ldF
          walk_at "q"
          refine ⟨ldF_no (by decide +kernel), L, i, j, a, b, rfl, rfl, ⟨by omega, by omega, by rw [Int.toNat_natCast]; exact ha, by rw [Int.toNat_natCast]; exact hb, by omega⟩, ?_⟩
          unfold ldF
          walk_at "q"
          exact hX _ ⟨mrg L a b, _, _, _, _, rfl, ((hH.grew (grew_mrg (P := fun u => u[i]? = u[j]?) ha hb (fun u _ p => p)) (fun u _ hs => hs _ hmem)).next hf (mrg_join ha hb))⟩
        · rename_i i j
          unfold ldF
          walk_at "q"
          refine cIf_r (by decide +kernel) ?_
          walk_at "q"
          refine cIf_r (by decide +kernel) ?_
          walk_at "q"
          exact hX _ ⟨L, _, _, _, _, rfl, hH.next hf trivial⟩
        · rename_i i j l
          unfold ldF
          walk_at "q"
          refine cIf_r (by decide +kernel) ?_
          walk_at "q"
          refine cIf_r (by decide +kernel) ?_
          walk_at "q"
          exact hX _ ⟨L, _, _, _, _, rfl, hH.next hf trivial⟩
        · rename_i i w
          obtain ⟨o1, o2⟩ := ho
          have hll := lnks_len w
          unfold ldF
          walk_at "q"
          refine cIf_r (by decide +kernel) ?_
          walk_at "q"
          refine ⟨w, .inl rfl, by omega, ?_⟩
          unfold lnkD
          refine loopJ (fun m2 env => ∃ (M : List Int) (s5 s6 : Sl), env = [.own (.obj "Partition" p (ldF M)), .bor (.int n), s2, .sh _, s4, s5, s6] ∧ Half n fc m M ∧ ∀ pq ∈ (lnks w).take m2, M[i + pq.1]? = M[i + pq.2]?) ⟨L, _, _, rfl, hH, by simp⟩ (fun m2 d2 env X2 hd2 hJ2 hX2 => ?_) fun env hJ2 => ?_
          rotate_left
          · obtain ⟨M, s5, s6, rfl, hH2, hm⟩ := hJ2
            rw [List.length_map, List.take_length] at hm
            exact hX _ ⟨M, _, _, _, _, rfl, hH2.next hf (fun a b ha hb e => links_all (w := w) (E := fun a b => M[i + a]? = M[i + b]?) (fun _ => rfl) (fun _ _ e => e.symm) (fun _ _ _ e1 e2 => e1.trans e2) (fun p q hpq => hm (p, q) (lnks_mem.mpr hpq)) a b ha hb e)⟩
          obtain ⟨M, s5, s6, rfl, hH2, hm⟩ := hJ2
          rw [List.getElem?_map] at hd2
          cases hpq : (lnks w)[m2]? with
          | none => rw [hpq] at hd2; cases hd2
          | some pq =>
          rw [hpq] at hd2
          cases hd2
          obtain ⟨u, v⟩ := pq
          obtain ⟨z1, z2, z3, z4⟩ := lnks_mem.mp (List.mem_of_getElem? hpq)
          have ml := hH2.len
          have ha : M[i + u]? = some M[i + u] := List.getElem?_eq_getElem (by omega)
          have hb : M[i + v]? = some M[i + v] := List.getElem?_eq_getElem (by omega)
          generalize M[i + u] = x0 at ha
          generalize M[i + v] = y0 at hb
          have hm2 : ∀ pq ∈ (lnks w).take (m2 + 1), (mrg M x0 y0)[i + pq.1]? = (mrg M x0 y0)[i + pq.2]? := fun pq hq => by
            rw [List.take_add_one, hpq] at hq
            rcases List.mem_append.mp hq with hq | hq
            · exact mrg_keep (hm pq hq)
            · cases List.mem_singleton.mp (show pq ∈ [(u, v)] from hq)
              exact mrg_join ha hb
          unfold ldF Q.prD
          walk_at "q"
          refine ⟨ldF_no (by decide +kernel), M, _, _, x0, y0, rfl, rfl, ⟨by omega, by omega, by rw [show ((i : Int) + (u : Int)).toNat = i + u by omega]; exact ha, by rw [show ((i : Int) + (v : Int)).toNat = i + v by omega]; exact hb, by omega⟩, ?_⟩
          unfold ldF
          walk_at "q"
          exact hX2 _ ⟨_, _, _, rfl, hH2.grew (grew_mrg (P := fun z => Says z (.win i w)) ha hb (fun z _ p => (p u v (by omega) z2).mpr z3)) (fun z _ hs => hs _ hmem), hm2⟩
        · rename_i i w
          obtain ⟨o1, o2⟩ := ho
          have hll := lnks_len w
          unfold ldF
          walk_at "q"
          refine cIf_r (by decide +kernel) ?_
          walk_at "q"
          refine ⟨w, .inr rfl, by omega, ?_⟩
          unfold lnkD
          refine loopJ (fun m2 env => ∃ (M : List Int) (s5 s6 : Sl), env = [.own (.obj "Partition" p (ldF M)), .bor (.int n), s2, .sh _, s4, s5, s6] ∧ Half n fc m M ∧ ∀ pq ∈ (lnks w).take m2, M[i + pq.1]? = M[i + pq.2]?) ⟨L, _, _, rfl, hH, by simp⟩ (fun m2 d2 env X2 hd2 hJ2 hX2 => ?_) fun env hJ2 => ?_
          rotate_left
          · obtain ⟨M, s5, s6, rfl, hH2, hm⟩ := hJ2
            rw [List.length_map, List.take_length] at hm
            exact hX _ ⟨M, _, _, _, _, rfl, hH2.next hf (fun a b ha hb e => links_all (w := w) (E := fun a b => M[i + a]? = M[i + b]?) (fun _ => rfl) (fun _ _ e => e.symm) (fun _ _ _ e1 e2 => e1.trans e2) (fun p q hpq => hm (p, q) (lnks_mem.mpr hpq)) a b ha hb e)⟩
          obtain ⟨M, s5, s6, rfl, hH2, hm⟩ := hJ2
          rw [List.getElem?_map] at hd2
          cases hpq : (lnks w)[m2]? with
          | none => rw [hpq] at hd2; cases hd2
          | some pq =>
          rw [hpq] at hd2
          cases hd2
          obtain ⟨u, v⟩ := pq
          obtain ⟨z1, z2, z3, z4⟩ := lnks_mem.mp (List.mem_of_getElem? hpq)
          have ml := hH2.len
          have ha : M[i + u]? = some M[i + u] := List.getElem?_eq_getElem (by omega)
          have hb : M[i + v]? = some M[i + v] := List.getElem?_eq_getElem (by omega)
          generalize M[i + u] = x0 at ha
          generalize M[i + v] = y0 at hb
          have hm2 : ∀ pq ∈ (lnks w).take (m2 + 1), (mrg M x0 y0)[i + pq.1]? = (mrg M x0 y0)[i + pq.2]? := fun pq hq => by
            rw [List.take_add_one, hpq] at hq
            rcases List.mem_append.mp hq with hq | hq
            · exact mrg_keep (hm pq hq)
            · cases List.mem_singleton.mp (show pq ∈ [(u, v)] from hq)
              exact mrg_join ha hb
          unfold ldF Q.prD
          walk_at "q"
          refine ⟨ldF_no (by decide +kernel), M, _, _, x0, y0, rfl, rfl, ⟨by omega, by omega, by rw [show ((i : Int) + (u : Int)).toNat = i + u by omega]; exact ha, by rw [show ((i : Int) + (v : Int)).toNat = i + v by omega]; exact hb, by omega⟩, ?_⟩
          unfold ldF
          walk_at "q"
          exact hX2 _ ⟨_, _, _, rfl, hH2.grew (grew_mrg (P := fun z => Says z (.win i w)) ha hb (fun z _ p => (p u v (by omega) z2).mpr z3)) (fun z _ hs => hs _ hmem), hm2⟩
        · rename_i i j
          obtain ⟨o1, o2, o3⟩ := ho
          have ha : L[i]? = some L[i] := List.getElem?_eq_getElem (by omega)
          have hb : L[j]? = some L[j] := List.getElem?_eq_getElem (by omega)
          generalize L[i] = a at ha
          generalize L[j] = b at hb
          unfold ldF
          walk_at "q"
          refine ⟨ldF_no (by decide +kernel), L, i, j, a, b, rfl, rfl, ⟨by omega, by omega, by rw [Int.toNat_natCast]; exact ha, by rw [Int.toNat_natCast]; exact hb, by omega⟩, ?_⟩
          unfold ldF
          walk_at "q"
          exact hX _ ⟨mrg L a b, _, _, _, _, rfl, ((hH.grew (grew_mrg (P := fun u => u[i]? = u[j]?) ha hb (fun u _ p => p)) (fun u _ hs => hs _ hmem)).next hf (mrg_join ha hb))⟩
        · rename_i i j
          unfold ldF
          walk_at "q"
          refine cIf_r (by decide +kernel) ?_
          walk_at "q"
          refine cIf_r (by decide +kernel) ?_
          walk_at "q"
          exact hX _ ⟨L, _, _, _, _, rfl, hH.next hf trivial⟩
        · rename_i i j l
          unfold ldF
          walk_at "q"
          refine cIf_r (by decide +kernel) ?_
          walk_at "q"
          refine cIf_r (by decide +kernel) ?_
          walk_at "q"
          exact hX _ ⟨L, _, _, _, _, rfl, hH.next hf trivial⟩
        · rename_i i w
          obtain ⟨o1, o2⟩ := ho
          have hll := lnks_len w
          unfold ldF
          walk_at "q"
          refine cIf_r (by decide +kernel) ?_
          walk_at "q"
          refine ⟨w, .inl rfl, by omega, ?_⟩
          unfold lnkD
          refine loopJ (fun m2 env => ∃ (M : List Int) (s5 s6 : Sl), env = [.own (.obj "Partition" p (ldF M)), .bor (.int n), s2, .sh _, s4, s5, s6] ∧ Half n fc m M ∧ ∀ pq ∈ (lnks w).take m2, M[i + pq.1]? = M[i + pq.2]?) ⟨L, _, _, rfl, hH, by simp⟩ (fun m2 d2 env X2 hd2 hJ2 hX2 => ?_) fun env hJ2 => ?_
          rotate_left
          · obtain ⟨M, s5, s6, rfl, hH2, hm⟩ := hJ2
            rw [List.length_map, List.take_length] at hm
            exact hX _ ⟨M, _, _, _, _, rfl, hH2.next hf (fun a b ha hb e => links_all (w := w) (E := fun a b => M[i + a]? = M[i + b]?) (fun _ => rfl) (fun _ _ e => e.symm) (fun _ _ _ e1 e2 => e1.trans e2) (fun p q hpq => hm (p, q) (lnks_mem.mpr hpq)) a b ha hb e)⟩
          obtain ⟨M, s5, s6, rfl, hH2, hm⟩ := hJ2
          rw [List.getElem?_map] at hd2
          cases hpq : (lnks w)[m2]? with
          | none => rw [hpq] at hd2; cases hd2
          | some pq =>
          rw [hpq] at hd2
          cases hd2
          obtain ⟨u, v⟩ := pq
          obtain ⟨z1, z2, z3, z4⟩ := lnks_mem.mp (List.mem_of_getElem? hpq)
          have ml := hH2.len
          have ha : M[i + u]? = some M[i + u] := List.getElem?_eq_getElem (by omega)
          have hb : M[i + v]? = some M[i + v] := List.getElem?_eq_getElem (by omega)
          generalize M[i + u] = x0 at ha
          generalize M[i + v] = y0 at hb
          have hm2 : ∀ pq ∈ (lnks w).take (m2 + 1), (mrg M x0 y0)[i + pq.1]? = (mrg M x0 y0)[i + pq.2]? := fun pq hq => by
            rw [List.take_add_one, hpq] at hq
            rcases List.mem_append.mp hq with hq | hq
            · exact mrg_keep (hm pq hq)
            · cases List.mem_singleton.mp (show pq ∈ [(u, v)] from hq)
              exact mrg_join ha hb
          unfold ldF Q.prD
          walk_at "q"
          refine ⟨ldF_no (by decide +kernel), M, _, _, x0, y0, rfl, rfl, ⟨by omega, by omega, by rw [show ((i : Int) + (u : Int)).toNat = i + u by omega]; exact ha, by rw [show ((i : Int) + (v : Int)).toNat = i + v by omega]; exact hb, by omega⟩, ?_⟩
          unfold ldF
          walk_at "q"
          exact hX2 _ ⟨_, _, _, rfl, hH2.grew (grew_mrg (P := fun z => Says z (.win i w)) ha hb (fun z _ p => (p u v (by omega) z2).mpr z3)) (fun z _ hs => hs _ hmem), hm2⟩
        · rename_i i w
          obtain ⟨o1, o2⟩ := ho
          have hll := lnks_len w
          unfold ldF
          walk_at "q"
          refine cIf_r (by decide +kernel) ?_
          walk_at "q"
          refine ⟨w, .inr rfl, by omega, ?_⟩
          unfold lnkD
          refine loopJ (fun m2 env => ∃ (M : List Int) (s5 s6 : Sl), env = [.own (.obj "Partition" p (ldF M)), .bor (.int n), s2, .sh _, s4, s5, s6] ∧ Half n fc m M ∧ ∀ pq ∈ (lnks w).take m2, M[i + pq.1]? = M[i + pq.2]?) ⟨L, _, _, rfl, hH, by simp⟩ (fun m2 d2 env X2 hd2 hJ2 hX2 => ?_) fun env hJ2 => ?_
          rotate_left
          · obtain ⟨M, s5, s6, rfl, hH2, hm⟩ := hJ2
            rw [List.length_map, List.take_length] at hm
            exact hX _ ⟨M, _, _, _, _, rfl, hH2.next hf (fun a b ha hb e => links_all (w := w) (E := fun a b => M[i + a]? = M[i + b]?) (fun _ => rfl) (fun _ _ e => e.symm) (fun _ _ _ e1 e2 => e1.trans e2) (fun p q hpq => hm (p, q) (lnks_mem.mpr hpq)) a b ha hb e)⟩
          obtain ⟨M, s5, s6, rfl, hH2, hm⟩ := hJ2
          rw [List.getElem?_map] at hd2
          cases hpq : (lnks w)[m2]? with
          | none => rw [hpq] at hd2; cases hd2
          | some pq =>
          rw [hpq] at hd2
          cases hd2
          obtain ⟨u, v⟩ := pq
          obtain ⟨z1, z2, z3, z4⟩ := lnks_mem.mp (List.mem_of_getElem? hpq)
          have ml := hH2.len
          have ha : M[i + u]? = some M[i + u] := List.getElem?_eq_getElem (by omega)
          have hb : M[i + v]? = some M[i + v] := List.getElem?_eq_getElem (by omega)
          generalize M[i + u] = x0 at ha
          generalize M[i + v] = y0 at hb
          have hm2 : ∀ pq ∈ (lnks w).take (m2 + 1), (mrg M x0 y0)[i + pq.1]? = (mrg M x0 y0)[i + pq.2]? := fun pq hq => by
            rw [List.take_add_one, hpq] at hq
            rcases List.mem_append.mp hq with hq | hq
            · exact mrg_keep (hm pq hq)
            · cases List.mem_singleton.mp (show pq ∈ [(u, v)] from hq)
              exact mrg_join ha hb
          unfold ldF Q.prD
          walk_at "q"
          refine ⟨ldF_no (by decide +kernel), M, _, _, x0, y0, rfl, rfl, ⟨by omega, by omega, by rw [show ((i : Int) + (u : Int)).toNat = i + u by omega]; exact ha, by rw [show ((i : Int) + (v : Int)).toNat = i + v by omega]; exact hb, by omega⟩, ?_⟩
          unfold ldF
          walk_at "q"
          exact hX2 _ ⟨_, _, _, rfl, hH2.grew (grew_mrg (P := fun z => Says z (.win i w)) ha hb (fun z _ p => (p u v (by omega) z2).mpr z3)) (fun z _ hs => hs _ hmem), hm2⟩
      · obtain ⟨L, s3, s4, s5, s6, rfl, hH⟩ := hJ
        rw [← hfc.length] at hH
        subst hs2
        unfold ldF
        walk_at "q"
        refine comp_rule (fun _ : Unit => [.own (.obj "Partition" p (ldF L)), .bor (.int n), .bor (D.lst ds), .no, s4, s5, s6]) (fun m _ acc => FcsAt ((fc.take m).filter isEqv) acc) () .nil (fun m d u acc X hd hI hX => ?_) fun _ acc hI => ?_
        · obtain ⟨f, hf, hat⟩ := hfc.at hd
          have et : fc.take (m + 1) = fc.take m ++ [f] := by rw [List.take_add_one, hf]; rfl
          have hacc := hI.length
          have hfl := List.length_filter_le isEqv (fc.take m)
          have htl := List.length_take_le' m fc
          have hdl := hfc.length
          have hat2 := hat
          unfold ldF
          rcases hat with hat | hat <;> cases hat
          all_goals unfold compStep
          all_goals walk_at "q"
          all_goals first | refine cIf_r (by decide +kernel) ?_ | skip
          all_goals walk_at "q"
          all_goals first
            | exact hX () acc (by rw [et, List.filter_append]; simpa [isEqv] using hI)
            | exact ⟨by omega, hX () _ (by rw [et, List.filter_append]; exact hI.append (.cons hat2 .nil))⟩
        have hlen := hI.length
        rw [← hfc.length, List.take_length] at hI hlen
        have hfl := List.length_filter_le isEqv fc
        have hdl := hfc.length
        unfold ldF
        walk_at "q"
        refine while_rule (fun (a : List Int × Sl) => [.own (.obj "Partition" p (ldF a.1)), .bor (.int n), .bor (D.lst ds), .no, a.2, s5, s6]) (fun m a => Half n fc fc.length a.1 ∧ (dd a.1).length < m ∧ (a.2 = .own (.lst acc) ∨ a.2 = .sh (.lst acc))) ((dd L).length + 1) (L, .own (.lst acc)) ⟨hH, by show (dd L).length < _; omega, .inl rfl⟩ (fun a h => by omega) (fun m a X hI2 hX => ?_)
        obtain ⟨M0, s4⟩ := a
        obtain ⟨g1, g2, g3⟩ := hI2
        replace g1 : Half n fc fc.length M0 := g1
        replace g2 : (dd M0).length < m + 1 := g2
        replace g3 : s4 = .own (.lst acc) ∨ s4 = .sh (.lst acc) := g3
        unfold ldF
        rcases g3 with rfl | rfl
        · walk_at "q"
          refine comp_rule (fun M : List Int => [.own (.obj "Partition" p (ldF M)), .bor (.int n), .bor (D.lst ds), .no, .sh (.lst acc), s5, s6]) (fun m2 M ac => ∃ bs : List Bool, ac = bs.map .bl ∧ bs.length = m2 ∧ Half n fc fc.length M ∧ Grew M0 M (bs.any id) (fun u => u.length = n ∧ ∀ f ∈ fc, Says u f) ∧ (bs.any id = false → ∀ f ∈ (fc.filter isEqv).take m2, Made M f)) M0 ⟨[], rfl, rfl, g1, Grew.refl M0 _, by simp⟩ (fun m2 d2 M ac X2 hd2 hI3 hX2 => ?_) fun M ac hI3 => ?_
          · obtain ⟨bs, rfl, hbl, hM, hG, hmade⟩ := hI3
            obtain ⟨f, hf, hat⟩ := hI.at hd2
            have hff := List.mem_filter.mp (List.mem_of_getElem? hf)
            have hm2 := (List.getElem?_eq_some_iff.mp hd2).1
            have et : (fc.filter isEqv).take (m2 + 1) = (fc.filter isEqv).take m2 ++ [f] := by rw [List.take_add_one, hf]; rfl
            have hff2 := hff.2
            cases f with
            | same i j => cases hff2
            | diff i j => cases hff2
            | win i w => cases hff2
            | eqv i j l =>
            obtain ⟨o1, o2, o3, o4⟩ := hok _ hff.1
            have ml := hM.len
            unfold ldF compStep
            walk_at "q"
            refine ⟨ldF_no (by decide +kernel), M, i, j, l, d2, rfl, rfl, ⟨hat, by omega, by omega, by omega⟩, fun M2 c2 hb => ?_⟩
            unfold ldF
            walk_at "q"
            refine ⟨by omega, ?_⟩
            refine hX2 M2 _ ⟨bs ++ [c2], by rw [List.map_append]; rfl, by rw [List.length_append, hbl]; rfl, hM.grew hb.toGrew (fun u hu hs => hs _ hff.1), ?_, fun e => ?_⟩
            · have := hG.trans (hb.toGrew.imp (P' := fun u => u.length = n ∧ ∀ f ∈ fc, Says u f) fun u h => h.2 _ hff.1)
              rw [Bool.or_comm] at this
              rw [List.any_append, List.any_cons, List.any_nil, Bool.or_false]
              exact this
            · rw [List.any_append, List.any_cons, List.any_nil, Bool.or_false, Bool.or_eq_false_iff] at e
              have e2 := hb.same e.2
              intro f hf2
              rw [et] at hf2
              rcases List.mem_append.mp hf2 with hf2 | hf2
              · rw [e2]; exact hmade e.1 f hf2
              · rw [List.mem_singleton.mp hf2]; exact hb.made e.2
          obtain ⟨bs, rfl, hbl, hM, hG, hmade⟩ := hI3
          rw [show bs.map D.bl = bs.map (fun b => D.bl (id b)) from rfl]
          walk_at "q"
          refine cIf_b (fun e => ?_) (fun e => ?_)
          · walk_at "q"
            exact hX (M, .sh (.lst acc)) ⟨hM, by have := hG.less e; show (dd M).length < m; omega, .inr rfl⟩
          · walk_at "q"
            have hlen2 := hI.length
            refine h M (hM.closed fun i j l hmem => hmade e _ ?_)
            rw [hlen2.symm, List.take_length]
            exact List.mem_filter.mpr ⟨hmem, rfl⟩
        · walk_at "q"
          refine comp_rule (fun M : List Int => [.own (.obj "Partition" p (ldF M)), .bor (.int n), .bor (D.lst ds), .no, .sh (.lst acc), s5, s6]) (fun m2 M ac => ∃ bs : List Bool, ac = bs.map .bl ∧ bs.length = m2 ∧ Half n fc fc.length M ∧ Grew M0 M (bs.any id) (fun u => u.length = n ∧ ∀ f ∈ fc, Says u f) ∧ (bs.any id = false → ∀ f ∈ (fc.filter isEqv).take m2, Made M f)) M0 ⟨[], rfl, rfl, g1, Grew.refl M0 _, by simp⟩ (fun m2 d2 M ac X2 hd2 hI3 hX2 => ?_) fun M ac hI3 => ?_
          · obtain ⟨bs, rfl, hbl, hM, hG, hmade⟩ := hI3
            obtain ⟨f, hf, hat⟩ := hI.at hd2
            have hff := List.mem_filter.mp (List.mem_of_getElem? hf)
            have hm2 := (List.getElem?_eq_some_iff.mp hd2).1
            have et : (fc.filter isEqv).take (m2 + 1) = (fc.filter isEqv).take m2 ++ [f] := by rw [List.take_add_one, hf]; rfl
            have hff2 := hff.2
            cases f with
            | same i j => cases hff2
            | diff i j => cases hff2
            | win i w => cases hff2
            | eqv i j l =>
            obtain ⟨o1, o2, o3, o4⟩ := hok _ hff.1
            have ml := hM.len
            unfold ldF compStep
            walk_at "q"
            refine ⟨ldF_no (by decide +kernel), M, i, j, l, d2, rfl, rfl, ⟨hat, by omega, by omega, by omega⟩, fun M2 c2 hb => ?_⟩
            unfold ldF
            walk_at "q"
            refine ⟨by omega, ?_⟩
            refine hX2 M2 _ ⟨bs ++ [c2], by rw [List.map_append]; rfl, by rw [List.length_append, hbl]; rfl, hM.grew hb.toGrew (fun u hu hs => hs _ hff.1), ?_, fun e => ?_⟩
            · have := hG.trans (hb.toGrew.imp (P' := fun u => u.length = n ∧ ∀ f ∈ fc, Says u f) fun u h => h.2 _ hff.1)
              rw [Bool.or_comm] at this
              rw [List.any_append, List.any_cons, List.any_nil, Bool.or_false]
              exact this
            · rw [List.any_append, List.any_cons, List.any_nil, Bool.or_false, Bool.or_eq_false_iff] at e
              have e2 := hb.same e.2
              intro f hf2
              rw [et] at hf2
              rcases List.mem_append.mp hf2 with hf2 | hf2
              · rw [e2]; exact hmade e.1 f hf2
              · rw [List.mem_singleton.mp hf2]; exact hb.made e.2
          obtain ⟨bs, rfl, hbl, hM, hG, hmade⟩ := hI3
          rw [show bs.map D.bl = bs.map (fun b => D.bl (id b)) from rfl]
          walk_at "q"
          refine cIf_b (fun e => ?_) (fun e => ?_)
          · walk_at "q"
            exact hX (M, .sh (.lst acc)) ⟨hM, by have := hG.less e; show (dd M).length < m; omega, .inr rfl⟩
          · walk_at "q"
            have hlen2 := hI.length
            refine h M (hM.closed fun i j l hmem => hmade e _ ?_)
            rw [hlen2.symm, List.take_length]
            exact List.mem_filter.mpr ⟨hmem, rfl⟩
    · walk_at "q"
      refine ⟨by omega, by omega, ?_⟩
      rw [ranged_upto, Int.toNat_natCast]
      walk_at "q"
      obtain ⟨s2, hs2⟩ : ∃ s2 : Sl, Sl.bor (D.tup ds) = s2 := ⟨_, rfl⟩
      rw [hs2]
      refine loopJ (fun m env => ∃ (L : List Int) (s3 s4 s5 s6 : Sl), env = [.own (.obj "Partition" p (ldF L)), .bor (.int n), s2, s3, s4, s5, s6] ∧ Half n fc m L) ⟨upto n, _, _, _, _, rfl, half_start n fc⟩ (fun m d env X hd hJ hX => ?_) fun env hJ => ?_
      · obtain ⟨L, s3, s4, s5, s6, rfl, hH⟩ := hJ
        obtain ⟨f, hf, hat⟩ := hfc.at hd
        have hmem := List.mem_of_getElem? hf
        have ho := hok f hmem
        have hLn := hH.len
        rcases hat with hat | hat <;> cases hat
        · rename_i i j
          obtain ⟨o1, o2, o3⟩ := ho
          have ha : L[i]? = some L[i] := List.getElem?_eq_getElem (by omega)
          have hb : L[j]? = some L[j] := List.getElem?_eq_getElem (by omega)
          generalize L[i] = a at ha
          generalize L[j] = b at hb
          unfold ldF
          walk_at "q"
          refine ⟨ldF_no (by decide +kernel), L, i, j, a, b, rfl, rfl, ⟨by omega, by omega, by rw [Int.toNat_natCast]; exact ha, by rw [Int.toNat_natCast]; exact hb, by omega⟩, ?_⟩
          unfold ldF
          walk_at "q"
          exact hX _ ⟨mrg L a b, _, _, _, _, rfl, ((hH.grew (grew_mrg (P := fun u => u[i]? = u[j]?) ha hb (fun u _ p => p)) (fun u _ hs => hs _ hmem)).next hf (mrg_join ha hb))⟩
        · rename_i i j
          unfold ldF
          walk_at "q"
          refine cIf_r (by decide +kernel) ?_
          walk_at "q"
          refine cIf_r (by decide +kernel) ?_
          walk_at "q"
          exact hX _ ⟨L, _, _, _, _, rfl, hH.next hf trivial⟩
        · rename_i i j l
          unfold ldF
          walk_at "q"
          refine cIf_r (by decide +kernel) ?_
          walk_at "q"
          refine cIf_r (by decide +kernel) ?_
          walk_at "q"
          exact hX _ ⟨L, _, _, _, _, rfl, hH.next hf trivial⟩
        · rename_i i w
          obtain ⟨o1, o2⟩ := ho
          have hll := lnks_len w
          unfold ldF
          walk_at "q"
          refine cIf_r (by decide +kernel) ?_
          walk_at "q"
          refine ⟨w, .inl rfl, by omega, ?_⟩
          unfold lnkD
          refine loopJ (fun m2 env => ∃ (M : List Int) (s5 s6 : Sl), env = [.own (.obj "Partition" p (ldF M)), .bor (.int n), s2, .sh _, s4, s5, s6] ∧ Half n fc m M ∧ ∀ pq ∈ (lnks w).take m2, M[i + pq.1]? = M[i + pq.2]?) ⟨L, _, _, rfl, hH, by simp⟩ (fun m2 d2 env X2 hd2 hJ2 hX2 => ?_) fun env hJ2 => ?_
          rotate_left
          · obtain ⟨M, s5, s6, rfl, hH2, hm⟩ := hJ2
            rw [List.length_map, List.take_length] at hm
            exact hX _ ⟨M, _, _, _, _, rfl, hH2.next hf (fun a b ha hb e => links_all (w := w) (E := fun a b => M[i + a]? = M[i + b]?) (fun _ => rfl) (fun _ _ e => e.symm) (fun _ _ _ e1 e2 => e1.trans e2) (fun p q hpq => hm (p, q) (lnks_mem.mpr hpq)) a b ha hb e)⟩
          obtain ⟨M, s5, s6, rfl, hH2, hm⟩ := hJ2
          rw [List.getElem?_map] at hd2
          cases hpq : (lnks w)[m2]? with
          | none => rw [hpq] at hd2; cases hd2
          | some pq =>
          rw [hpq] at hd2
          cases hd2
          obtain ⟨u, v⟩ := pq
          obtain ⟨z1, z2, z3, z4⟩ := lnks_mem.mp (List.mem_of_getElem? hpq)
          have ml := hH2.len
          have ha : M[i + u]? = some M[i + u] := List.getElem?_eq_getElem (by omega)
          have hb : M[i + v]? = some M[i + v] := List.getElem?_eq_getElem (by omega)
          generalize M[i + u] = x0 at ha
          generalize M[i + v] = y0 at hb
          have hm2 : ∀ pq ∈ (lnks w).take (m2 + 1), (mrg M x0 y0)[i + pq.1]? = (mrg M x0 y0)[i + pq.2]? := fun pq hq => by
            rw [List.take_add_one, hpq] at hq
            rcases List.mem_append.mp hq with hq | hq
            · exact mrg_keep (hm pq hq)
            · cases List.mem_singleton.mp (show pq ∈ [(u, v)] from hq)
              exact mrg_join ha hb
          unfold ldF Q.prD
          walk_at "q"
          refine ⟨ldF_no (by decide +kernel), M, _, _, x0, y0, rfl, rfl, ⟨by omega, by omega, by rw [show ((i : Int) + (u : Int)).toNat = i + u by omega]; exact ha, by rw [show ((i : Int) + (v : Int)).toNat = i + v by omega]; exact hb, by omega⟩, ?_⟩
          unfold ldF
          walk_at "q"
          exact hX2 _ ⟨_, _, _, rfl, hH2.grew (grew_mrg (P := fun z => Says z (.win i w)) ha hb (fun z _ p => (p u v (by omega) z2).mpr z3)) (fun z _ hs => hs _ hmem), hm2⟩
        · rename_i i w
          obtain ⟨o1, o2⟩ := ho
          have hll := lnks_len w
          unfold ldF
          walk_at "q"
          refine cIf_r (by decide +kernel) ?_
          walk_at "q"
          refine ⟨w, .inr rfl, by omega, ?_⟩
          unfold lnkD
          refine loopJ (fun m2 env => ∃ (M : List Int) (s5 s6 : Sl), env = [.own (.obj "Partition" p (ldF M)), .bor (.int n), s2, .sh _, s4, s5, s6] ∧ Half n fc m M ∧ ∀ pq ∈ (lnks w).take m2, M[i + pq.1]? = M[i + pq.2]?) ⟨L, _, _, rfl, hH, by simp⟩ (fun m2 d2 env X2 hd2 hJ2 hX2 => ?_) fun env hJ2 => ?_
          rotate_left
          · obtain ⟨M, s5, s6, rfl, hH2, hm⟩ := hJ2
            rw [List.length_map, List.take_length] at hm
            exact hX _ ⟨M, _, _, _, _, rfl, hH2.next hf (fun a b ha hb e => links_all (w := w) (E := fun a b => M[i + a]? = M[i + b]?) (fun _ => rfl) (fun _ _ e => e.symm) (fun _ _ _ e1 e2 => e1.trans e2) (fun p q hpq => hm (p, q) (lnks_mem.mpr hpq)) a b ha hb e)⟩
          obtain ⟨M, s5, s6, rfl, hH2, hm⟩ := hJ2
          rw [List.getElem?_map] at hd2
          cases hpq : (lnks w)[m2]? with
          | none => rw [hpq] at hd2; cases hd2
          | some pq =>
          rw [hpq] at hd2
          cases hd2
          obtain ⟨u, v⟩ := pq
          obtain ⟨z1, z2, z3, z4⟩ := lnks_mem.mp (List.mem_of_getElem? hpq)
          have ml := hH2.len
          have ha : M[i + u]? = some M[i + u] := List.getElem?_eq_getElem (by omega)
          have hb : M[i + v]? = some M[i + v] := List.getElem?_eq_getElem (by omega)
          generalize M[i + u] = x0 at ha
          generalize M[i + v] = y0 at hb
          have hm2 : ∀ pq ∈ (lnks w).take (m2 + 1), (mrg M x0 y0)[i + pq.1]? = (mrg M x0 y0)[i + pq.2]? := fun pq hq => by
            rw [List.take_add_one, hpq] at hq
            rcases List.mem_append.mp hq with hq | hq
            · exact mrg_keep (hm pq hq)
            · cases List.mem_singleton.mp (show pq ∈ [(u, v)] from hq)
              exact mrg_join ha hb
          unfold ldF Q.prD
          walk_at "q"
          refine ⟨ldF_no (by decide +kernel), M, _, _, x0, y0, rfl, rfl, ⟨by omega, by omega, by rw [show ((i : Int) + (u : Int)).toNat = i + u by omega]; exact ha, by rw [show ((i : Int) + (v : Int)).toNat = i + v by omega]; exact hb, by omega⟩, ?_⟩
          unfold ldF
          walk_at "q"
          exact hX2 _ ⟨_, _, _, rfl, hH2.grew (grew_mrg (P := fun z => Says z (.win i w)) ha hb (fun z _ p => (p u v (by omega) z2).mpr z3)) (fun z _ hs => hs _ hmem), hm2⟩
        · rename_i i j
          obtain ⟨o1, o2, o3⟩ := ho
          have ha : L[i]? = some L[i] := List.getElem?_eq_getElem (by omega)
          have hb : L[j]? = some L[j] := List.getElem?_eq_getElem (by omega)
          generalize L[i] = a at ha
          generalize L[j] = b at hb
          unfold ldF
          walk_at "q"
          refine ⟨ldF_no (by decide +kernel), L, i, j, a, b, rfl, rfl, ⟨by omega, by omega, by rw [Int.toNat_natCast]; exact ha, by rw [Int.toNat_natCast]; exact hb, by omega⟩, ?_⟩
          unfold ldF
          walk_at "q"
          exact hX _ ⟨mrg L a b, _, _, _, _, rfl, ((hH.grew (grew_mrg (P := fun u => u[i]? = u[j]?) ha hb (fun u _ p => p)) (fun u _ hs => hs _ hmem)).next hf (mrg_join ha hb))⟩
        · rename_i i j
          unfold ldF
          walk_at "q"
          refine cIf_r (by decide +kernel) ?_
          walk_at "q"
          refine cIf_r (by decide +kernel) ?_
          walk_at "q"
          exact hX _ ⟨L, _, _, _, _, rfl, hH.next hf trivial⟩
        · rename_i i j l
          unfold ldF
          walk_at "q"
          refine cIf_r (by decide +kernel) ?_
          walk_at "q"
          refine cIf_r (by decide +kernel) ?_
          walk_at "q"
          exact hX _ ⟨L, _, _, _, _, rfl, hH.next hf trivial⟩
        · rename_i i w
          obtain ⟨o1, o2⟩ := ho
          have hll := lnks_len w
          unfold ldF
          walk_at "q"
          refine cIf_r (by decide +kernel) ?_
          walk_at "q"
          refine ⟨w, .inl rfl, by omega, ?_⟩
          unfold lnkD
          refine loopJ (fun m2 env => ∃ (M : List Int) (s5 s6 : Sl), env = [.own (.obj "Partition" p (ldF M)), .bor (.int n), s2, .sh _, s4, s5, s6] ∧ Half n fc m M ∧ ∀ pq ∈ (lnks w).take m2, M[i + pq.1]? = M[i + pq.2]?) ⟨L, _, _, rfl, hH, by simp⟩ (fun m2 d2 env X2 hd2 hJ2 hX2 => ?_) fun env hJ2 => ?_
          rotate_left
          · obtain ⟨M, s5, s6, rfl, hH2, hm⟩ := hJ2
            rw [List.length_map, List.take_length] at hm
            exact hX _ ⟨M, _, _, _, _, rfl, hH2.next hf (fun a b ha hb e => links_all (w := w) (E := fun a b => M[i + a]? = M[i + b]?) (fun _ => rfl) (fun _ _ e => e.symm) (fun _ _ _ e1 e2 => e1.trans e2) (fun p q hpq => hm (p, q) (lnks_mem.mpr hpq)) a b ha hb e)⟩
          obtain ⟨M, s5, s6, rfl, hH2, hm⟩ := hJ2
          rw [List.getElem?_map] at hd2
          cases hpq : (lnks w)[m2]? with
          | none => rw [hpq] at hd2; cases hd2
          | some pq =>
          rw [hpq] at hd2
          cases hd2
          obtain ⟨u, v⟩ := pq
          obtain ⟨z1, z2, z3, z4⟩ := lnks_mem.mp (List.mem_of_getElem? hpq)
          have ml := hH2.len
          have ha : M[i + u]? = some M[i + u] := List.getElem?_eq_getElem (by omega)
          have hb : M[i + v]? = some M[i + v] := List.getElem?_eq_getElem (by omega)
          generalize M[i + u] = x0 at ha
          generalize M[i + v] = y0 at hb
          have hm2 : ∀ pq ∈ (lnks w).take (m2 + 1), (mrg M x0 y0)[i + pq.1]? = (mrg M x0 y0)[i + pq.2]? := fun pq hq => by
            rw [List.take_add_one, hpq] at hq
            rcases List.mem_append.mp hq with hq | hq
            · exact mrg_keep (hm pq hq)
            · cases List.mem_singleton.mp (show pq ∈ [(u, v)] from hq)
              exact mrg_join ha hb
          unfold ldF Q.prD
          walk_at "q"
          refine ⟨ldF_no (by decide +kernel), M, _, _, x0, y0, rfl, rfl, ⟨by omega, by omega, by rw [show ((i : Int) + (u : Int)).toNat = i + u by omega]; exact ha, by rw [show ((i : Int) + (v : Int)).toNat = i + v by omega]; exact hb, by omega⟩, ?_⟩
          unfold ldF
          walk_at "q"
          exact hX2 _ ⟨_, _, _, rfl, hH2.grew (grew_mrg (P := fun z => Says z (.win i w)) ha hb (fun z _ p => (p u v (by omega) z2).mpr z3)) (fun z _ hs => hs _ hmem), hm2⟩
        · rename_i i w
          obtain ⟨o1, o2⟩ := ho
          have hll := lnks_len w
          unfold ldF
          walk_at "q"
          refine cIf_r (by decide +kernel) ?_
          walk_at "q"
          refine ⟨w, .inr rfl, by omega, ?_⟩
          unfold lnkD
          refine loopJ (fun m2 env => ∃ (M : List Int) (s5 s6 : Sl), env = [.own (.obj "Partition" p (ldF M)), .bor (.int n), s2, .sh _, s4, s5, s6] ∧ Half n fc m M ∧ ∀ pq ∈ (lnks w).take m2, M[i + pq.1]? = M[i + pq.2]?) ⟨L, _, _, rfl, hH, by simp⟩ (fun m2 d2 env X2 hd2 hJ2 hX2 => ?_) fun env hJ2 => ?_
          rotate_left
          · obtain ⟨M, s5, s6, rfl, hH2, hm⟩ := hJ2
            rw [List.length_map, List.take_length] at hm
            exact hX _ ⟨M, _, _, _, _, rfl, hH2.next hf (fun a b ha hb e => links_all (w := w) (E := fun a b => M[i + a]? = M[i + b]?) (fun _ => rfl) (fun _ _ e => e.symm) (fun _ _ _ e1 e2 => e1.trans e2) (fun p q hpq => hm (p, q) (lnks_mem.mpr hpq)) a b ha hb e)⟩
          obtain ⟨M, s5, s6, rfl, hH2, hm⟩ := hJ2
          rw [List.getElem?_map] at hd2
          cases hpq : (lnks w)[m2]? with
          | none => rw [hpq] at hd2; cases hd2
          | some pq =>
          rw [hpq] at hd2
          cases hd2
          obtain ⟨u, v⟩ := pq
          obtain ⟨z1, z2, z3, z4⟩ := lnks_mem.mp (List.mem_of_getElem? hpq)
          have ml := hH2.len
          have ha : M[i + u]? = some M[i + u] := List.getElem?_eq_getElem (by omega)
          have hb : M[i + v]? = some M[i + v] := List.getElem?_eq_getElem (by omega)
          generalize M[i + u] = x0 at ha
          generalize M[i + v] = y0 at hb
          have hm2 : ∀ pq ∈ (lnks w).take (m2 + 1), (mrg M x0 y0)[i + pq.1]? = (mrg M x0 y0)[i + pq.2]? := fun pq hq => by
            rw [List.take_add_one, hpq] at hq
            rcases List.mem_append.mp hq with hq | hq
            · exact mrg_keep (hm pq hq)
            · cases List.mem_singleton.mp (show pq ∈ [(u, v)] from hq)
              exact mrg_join ha hb
          unfold ldF Q.prD
          walk_at "q"
          refine ⟨ldF_no (by decide +kernel), M, _, _, x0, y0, rfl, rfl, ⟨by omega, by omega, by rw [show ((i : Int) + (u : Int)).toNat = i + u by omega]; exact ha, by rw [show ((i : Int) + (v : Int)).toNat = i + v by omega]; exact hb, by omega⟩, ?_⟩
          unfold ldF
          walk_at "q"
          exact hX2 _ ⟨_, _, _, rfl, hH2.grew (grew_mrg (P := fun z => Says z (.win i w)) ha hb (fun z _ p => (p u v (by omega) z2).mpr z3)) (fun z _ hs => hs _ hmem), hm2⟩
      · obtain ⟨L, s3, s4, s5, s6, rfl, hH⟩ := hJ
        rw [← hfc.length] at hH
        subst hs2
        unfold ldF
        walk_at "q"
        refine comp_rule (fun _ : Unit => [.own (.obj "Partition" p (ldF L)), .bor (.int n), .bor (D.tup ds), .no, s4, s5, s6]) (fun m _ acc => FcsAt ((fc.take m).filter isEqv) acc) () .nil (fun m d u acc X hd hI hX => ?_) fun _ acc hI => ?_
        · obtain ⟨f, hf, hat⟩ := hfc.at hd
          have et : fc.take (m + 1) = fc.take m ++ [f] := by rw [List.take_add_one, hf]; rfl
          have hacc := hI.length
          have hfl := List.length_filter_le isEqv (fc.take m)
          have htl := List.length_take_le' m fc
          have hdl := hfc.length
          have hat2 := hat
          unfold ldF
          rcases hat with hat | hat <;> cases hat
          all_goals unfold compStep
          all_goals walk_at "q"
          all_goals first | refine cIf_r (by decide +kernel) ?_ | skip
          all_goals walk_at "q"
          all_goals first
            | exact hX () acc (by rw [et, List.filter_append]; simpa [isEqv] using hI)
            | exact ⟨by omega, hX () _ (by rw [et, List.filter_append]; exact hI.append (.cons hat2 .nil))⟩
        have hlen := hI.length
        rw [← hfc.length, List.take_length] at hI hlen
        have hfl := List.length_filter_le isEqv fc
        have hdl := hfc.length
        unfold ldF
        walk_at "q"
        refine while_rule (fun (a : List Int × Sl) => [.own (.obj "Partition" p (ldF a.1)), .bor (.int n), .bor (D.tup ds), .no, a.2, s5, s6]) (fun m a => Half n fc fc.length a.1 ∧ (dd a.1).length < m ∧ (a.2 = .own (.lst acc) ∨ a.2 = .sh (.lst acc))) ((dd L).length + 1) (L, .own (.lst acc)) ⟨hH, by show (dd L).length < _; omega, .inl rfl⟩ (fun a h => by omega) (fun m a X hI2 hX => ?_)
        obtain ⟨M0, s4⟩ := a
        obtain ⟨g1, g2, g3⟩ := hI2
        replace g1 : Half n fc fc.length M0 := g1
        replace g2 : (dd M0).length < m + 1 := g2
        replace g3 : s4 = .own (.lst acc) ∨ s4 = .sh (.lst acc) := g3
        unfold ldF
        rcases g3 with rfl | rfl
        · walk_at "q"
          refine comp_rule (fun M : List Int => [.own (.obj "Partition" p (ldF M)), .bor (.int n), .bor (D.tup ds), .no, .sh (.lst acc), s5, s6]) (fun m2 M ac => ∃ bs : List Bool, ac = bs.map .bl ∧ bs.length = m2 ∧ Half n fc fc.length M ∧ Grew M0 M (bs.any id) (fun u => u.length = n ∧ ∀ f ∈ fc, Says u f) ∧ (bs.any id = false → ∀ f ∈ (fc.filter isEqv).take m2, Made M f)) M0 ⟨[], rfl, rfl, g1, Grew.refl M0 _, by simp⟩ (fun m2 d2 M ac X2 hd2 hI3 hX2 => ?_) fun M ac hI3 => ?_
          · obtain ⟨bs, rfl, hbl, hM, hG, hmade⟩ := hI3
            obtain ⟨f, hf, hat⟩ := hI.at hd2
            have hff := List.mem_filter.mp (List.mem_of_getElem? hf)
            have hm2 := (List.getElem?_eq_some_iff.mp hd2).1
            have et : (fc.filter isEqv).take (m2 + 1) = (fc.filter isEqv).take m2 ++ [f] := by rw [List.take_add_one, hf]; rfl
            have hff2 := hff.2
            cases f with
            | same i j => cases hff2
            | diff i j => cases hff2
            | win i w => cases hff2
            | eqv i j l =>
            obtain ⟨o1, o2, o3, o4⟩ := hok _ hff.1
            have ml := hM.len
            unfold ldF compStep
            walk_at "q"
            refine ⟨ldF_no (by decide +kernel), M, i, j, l, d2, rfl, rfl, ⟨hat, by omega, by omega, by omega⟩, fun M2 c2 hb => ?_⟩
            unfold ldF
            walk_at "q"
            refine ⟨by omega, ?_⟩
            refine hX2 M2 _ ⟨bs ++ [c2], by rw [List.map_append]; rfl, by rw [List.length_append, hbl]; rfl, hM.grew hb.toGrew (fun u hu hs => hs _ hff.1), ?_, fun e => ?_⟩
            · have := hG.trans (hb.toGrew.imp (P' := fun u => u.length = n ∧ ∀ f ∈ fc, Says u f) fun u h => h.2 _ hff.1)
              rw [Bool.or_comm] at this
              rw [List.any_append, List.any_cons, List.any_nil, Bool.or_false]
              exact this
            · rw [List.any_append, List.any_cons, List.any_nil, Bool.or_false, Bool.or_eq_false_iff] at e
              have e2 := hb.same e.2
              intro f hf2
              rw [et] at hf2
              rcases List.mem_append.mp hf2 with hf2 | hf2
              · rw [e2]; exact hmade e.1 f hf2
              · rw [List.mem_singleton.mp hf2]; exact hb.made e.2
          obtain ⟨bs, rfl, hbl, hM, hG, hmade⟩ := hI3
          rw [show bs.map D.bl = bs.map (fun b => D.bl (id b)) from rfl]
          walk_at "q"
          refine cIf_b (fun e => ?_) (fun e => ?_)
          · walk_at "q"
            exact hX (M, .sh (.lst acc)) ⟨hM, by have := hG.less e; show (dd M).length < m; omega, .inr rfl⟩
          · walk_at "q"
            have hlen2 := hI.length
            refine h M (hM.closed fun i j l hmem => hmade e _ ?_)
            rw [hlen2.symm, List.take_length]
            exact List.mem_filter.mpr ⟨hmem, rfl⟩
        · walk_at "q"
          refine comp_rule (fun M : List Int => [.own (.obj "Partition" p (ldF M)), .bor (.int n), .bor (D.tup ds), .no, .sh (.lst acc), s5, s6]) (fun m2 M ac => ∃ bs : List Bool, ac = bs.map .bl ∧ bs.length = m2 ∧ Half n fc fc.length M ∧ Grew M0 M (bs.any id) (fun u => u.length = n ∧ ∀ f ∈ fc, Says u f) ∧ (bs.any id = false → ∀ f ∈ (fc.filter isEqv).take m2, Made M f)) M0 ⟨[], rfl, rfl, g1, Grew.refl M0 _, by simp⟩ (fun m2 d2 M ac X2 hd2 hI3 hX2 => ?_) fun M ac hI3 => ?_
          · obtain ⟨bs, rfl, hbl, hM, hG, hmade⟩ := hI3
            obtain ⟨f, hf, hat⟩ := hI.at hd2
            have hff := List.mem_filter.mp (List.mem_of_getElem? hf)
            have hm2 := (List.getElem?_eq_some_iff.mp hd2).1
            have et : (fc.filter isEqv).take (m2 + 1) = (fc.filter isEqv).take m2 ++ [f] := by rw [List.take_add_one, hf]; rfl
            have hff2 := hff.2
            cases f with
            | same i j => cases hff2
            | diff i j => cases hff2
            | win i w => cases hff2
            | eqv i j l =>
            obtain ⟨o1, o2, o3, o4⟩ := hok _ hff.1
            have ml := hM.len
            unfold ldF compStep
            walk_at "q"
            refine ⟨ldF_no (by decide +kernel), M, i, j, l, d2, rfl, rfl, ⟨hat, by omega, by omega, by omega⟩, fun M2 c2 hb => ?_⟩
            unfold ldF
            walk_at "q"
            refine ⟨by omega, ?_⟩
            refine hX2 M2 _ ⟨bs ++ [c2], by rw [List.map_append]; rfl, by rw [List.length_append, hbl]; rfl, hM.grew hb.toGrew (fun u hu hs => hs _ hff.1), ?_, fun e => ?_⟩
            · have := hG.trans (hb.toGrew.imp (P' := fun u => u.length = n ∧ ∀ f ∈ fc, Says u f) fun u h => h.2 _ hff.1)
              rw [Bool.or_comm] at this
              rw [List.any_append, List.any_cons, List.any_nil, Bool.or_false]
              exact this
            · rw [List.any_append, List.any_cons, List.any_nil, Bool.or_false, Bool.or_eq_false_iff] at e
              have e2 := hb.same e.2
              intro f hf2
              rw [et] at hf2
              rcases List.mem_append.mp hf2 with hf2 | hf2
              · rw [e2]; exact hmade e.1 f hf2
              · rw [List.mem_singleton.mp hf2]; exact hb.made e.2
          obtain ⟨bs, rfl, hbl, hM, hG, hmade⟩ := hI3
          rw [show bs.map D.bl = bs.map (fun b => D.bl (id b)) from rfl]
          walk_at "q"
          refine cIf_b (fun e => ?_) (fun e => ?_)
          · walk_at "q"
            exact hX (M, .sh (.lst acc)) ⟨hM, by have := hG.less e; show (dd M).length < m; omega, .inr rfl⟩
          · walk_at "q"
            have hlen2 := hI.length
            refine h M (hM.closed fun i j l hmem => hmade e _ ?_)
            rw [hlen2.symm, List.take_length]
            exact List.mem_filter.mpr ⟨hmem, rfl⟩
theorem cal_Partition___init__ (T : Tx K mg) : ICal P w K mg base g 4 "Partition" [] sp_Partition___init__ := by
  obtain ⟨fd, G, Fn⟩ := fn_Partition___init__ (P := P) (w := w) (base := base) (g := g) T
  exact ⟨_, fd, _, [], G, T.k_Partition, T.g_Partition, Fn.bindsN fun _ _ _ _ _ _ us hl => match us, hl with | [_, _, _], _ => rfl, .nil, rfl, T.o_Partition⟩
end

/-! ### window_symbols -/

def sp_window_symbols : Spq := fun as k x => ∃ (d : D) (p : Int) (q : Int), as = [.bor d, .bor (.int p), .bor (.int q)] ∧ (∃ (i : Nat) (w : List Int), (FcAt (.win i w) d ∧ w.length ≤ 1000 ∧ (i ≤ p ∧ p < i + w.length) ∧ i ≤ q ∧ q < i + w.length) ∧ ∀ x y : Int, (x = y ↔ w[(p - i).toNat]? = w[(q - i).toNat]?) → k (.sh (.tup [.int x, .int y])))
theorem e_window_symbols {d : D} {p : Int} {q : Int} {k : Rv → Prop} {x : Str → List D → Prop} : sp_window_symbols [.bor d, .bor (.int p), .bor (.int q)] k x = (∃ (i : Nat) (w : List Int), (FcAt (.win i w) d ∧ w.length ≤ 1000 ∧ (i ≤ p ∧ p < i + w.length) ∧ i ≤ q ∧ q < i + w.length) ∧ ∀ x y : Int, (x = y ↔ w[(p - i).toNat]? = w[(q - i).toNat]?) → k (.sh (.tup [.int x, .int y]))) := propext ⟨fun h => (by
  obtain ⟨d2, p2, q2, h, q⟩ := h
  simp only [List.cons.injEq, Ar.bor.injEq, Ar.sh.injEq, Ar.bag.injEq, D.lst.injEq, D.tup.injEq, D.int.injEq, D.str.injEq, D.bl.injEq, ints_inj, strs_inj, and_true, true_and] at h
  (obtain ⟨rfl, rfl, rfl⟩ := h)
  exact q), fun q => ⟨_, _, _, rfl, q⟩⟩

section
variable {P : Program} {w : World} {K : Fg} {mg : Str → Option Value} {base : Heap} {g : Gd}
theorem sc_window_symbols : FnScope ["fact", "one", "other", "inside", "offsets", "offset"] ["fact", "one", "other"] (defScope s_window_symbols) := ⟨rfl, rfl, rfl, by decide +kernel, rfl, by decide +kernel, by decide +kernel⟩
theorem fn_window_symbols (T : Tx K mg) : ∃ fd, FnG P w K mg base 2 (He.ga K "window_symbols") fd ["fact", "one", "other"] (spQ K mg g sp_window_symbols) ∧ FunD K "window_symbols" "window_symbols" (defArgs s_window_symbols) (defBody s_window_symbols) (defScope s_window_symbols) [] [] (He.ga K "window_symbols") fd := by
  have sc := sc_window_symbols
  have C_representatives : Cal P w K mg base g 1 "representatives" [] sp_representatives := cal_representatives T
  obtain ⟨fd, Fn⟩ := T.f_window_symbols
  refine ⟨fd, fn_q g Fn sc (by decide) (fun as k x h => ?_) fun cdv A outer s H E hgd hr => ?_, Fn⟩
  · unfold sp_window_symbols at h; first | (split at h <;> first | rfl | exact h.elim) | (obtain ⟨_, rfl, _⟩ := h; rfl) | (obtain ⟨_, _, rfl, _⟩ := h; rfl) | (obtain ⟨_, _, _, rfl, _⟩ := h; rfl) | (obtain ⟨_, _, _, _, rfl, _⟩ := h; rfl) | (obtain ⟨_, _, _, _, _, rfl, _⟩ := h; rfl) | (obtain ⟨_, _, _, _, _, _, rfl, _⟩ := h; rfl)
  · have tk : Takes (cxOf (L2.CX P w) P w K mg base ["fact", "one", "other", "inside", "offsets", "offset"] "window_symbols" (defScope s_window_symbols) (He.ga K "window_symbols") cdv A outer s H E) (fun cls d _ H => E cls d H) := takes_of rfl rfl rfl rfl
    refine ⟨_, _, (qs_cons (qs_setN (i := 3) (by exact sc.nd) (by exact rfl) (Or.inr rfl) (qn_call [.bor] C_representatives (by exact hgd) (by exact hr) (by omega) (by exact rfl) (qa_cons (q_ix ix_Q o_ix (q_var 0) q_int (by exact fun _ _ => rfl)) qa_nil (by rfl)) (by decide) (by rfl) (by rfl)) (by rfl) (by first | exact .inl rfl | exact .inr rfl | assumption))
      (qs_cons (qs_setN (i := 4) (by exact sc.nd) (by exact rfl) (Or.inl rfl) (qn_lst (qa_cons (q_op op_sub o_sub (q_var 1) (q_ix ix_Q o_ix (q_var 0) q_int (by exact fun _ _ => rfl))) (qa_cons (q_op op_sub o_sub (q_var 2) (q_ix ix_Q o_ix (q_var 0) q_int (by exact fun _ _ => rfl))) qa_nil (by rfl)) (by rfl))) (by rfl) (by first | exact .inl rfl | exact .inr rfl | assumption))
      (qs_cons (qs_if (qt_not (qt_val (q_callB (cr_all rfl) c_all (by exact rfl) T.z_all (by decide +kernel) (qa_cons (QN.qe (qn_lcB [("offset", 5)] (by exact rfl) (by exact sc.nd) (qi_seq (q_var 4)) (blkOk_by (by kernel_rfl)) (fun _ _ _ _ _ => (qg_name (i := 5) (by exact sc.nd) (by exact rfl) (by first | exact Or.inl rfl | exact Or.inr rfl) (by decide) (by first | exact .inl rfl | exact .inr rfl | assumption))) (fun _ _ _ _ _ => qts_nil) (fun _ _ _ _ _ => (q_chain op_le o_le op_lt o_lt q_int (q_var 5) (q_callB call_len c_len (by exact rfl) T.z_len (by decide +kernel) (qa_cons (q_var 3) qa_nil (by rfl)) (by decide) (by decide) (by rfl) (by rfl)) (by with_unfolding_all rfl))) (by intro _; rfl) (by intros; rfl) (by intros; rfl) (by intros; rfl))) qa_nil (by rfl)) (by decide) (by decide) (by rfl) (by rfl)) (by intro _; rfl))) (qs_one (qs_ret q_non)) qs_nil)
      (qs_one (qs_ret (q_tup (qa_cons (q_ix ix_Q o_ix (q_var 3) (q_ix ix_Q o_ix (q_var 4) q_int (by exact fun _ _ => rfl)) (by exact fun _ _ => rfl)) (qa_cons (q_ix ix_Q o_ix (q_var 3) (q_ix ix_Q o_ix (q_var 4) q_int (by exact fun _ _ => rfl)) (by exact fun _ _ => rfl)) qa_nil (by rfl)) (by rfl)))))))), fun as k x h => ?_⟩
    clear tk hr hgd Fn sc T
    obtain ⟨d, p, q, rfl, i, w, ⟨hd, hw, ⟨p0, p1⟩, q0, q1⟩, h⟩ := h
    have hd2 : ∃ z : D, (z = .lst ((dist w).map .int) ∨ z = .tup ((dist w).map .int)) ∧ (d = .lst [.str (Str.ofString "window"), .int i, z] ∨ d = .tup [.str (Str.ofString "window"), .int i, z]) := by
      rcases hd with hd | hd <;> cases hd
      · exact ⟨_, .inl rfl, .inl rfl⟩
      · exact ⟨_, .inr rfl, .inl rfl⟩
      · exact ⟨_, .inl rfl, .inr rfl⟩
      · exact ⟨_, .inr rfl, .inr rfl⟩
    obtain ⟨z, hz, rfl | rfl⟩ := hd2
    · walk_at "q"
      refine ⟨w, hz, hw, fun R hR => ?_⟩
      have hRl := hR.1
      walk_at "q"
      have hA : ∀ o ∈ [p - (i : Int), q - (i : Int)], 0 ≤ o ∧ o < R.length := fun o ho => by
        simp only [List.mem_cons, List.not_mem_nil, or_false] at ho
        rcases ho with rfl | rfl <;> omega
      rw [show [D.int (p - (i : Int)), D.int (q - (i : Int))] = ([p - (i : Int), q - (i : Int)] : List Int).map D.int from rfl]
      refine comp_ints (fun _ => true) (fun _ => .bl true) (fun n o acc X h1 h2 h3 h4 _ => ?_) ?_
      · have ho := hA o (List.mem_of_getElem? h1)
        have h2 : n < 2 := h2
        walk_at "q"
        refine cIf_l (decide_eq_true ho.1) ?_
        walk_at "q"
        rw [decide_eq_true (by omega : o < (R.length : Int))]
        exact ⟨by omega, h4 rfl⟩
      rw [show (([p - (i : Int), q - (i : Int)] : List Int).filter fun _ => true).map (fun _ => D.bl true) = ([p - (i : Int), q - (i : Int)] : List Int).map (fun d => D.bl ((fun _ => true) d)) by simp]
      walk_at "q"
      refine cIf_l rfl ?_
      rw [show ([p - (i : Int), q - (i : Int)] : List Int).map D.int = [D.int (p - (i : Int)), D.int (q - (i : Int))] from rfl]
      walk_at "q"
      refine ix_ints (by omega) (by omega) fun x hx => ?_
      walk_at "q"
      refine ix_ints (by omega) (by omega) fun y hy => ?_
      walk_at "q"
      refine h x y ?_
      have := hR.2 (p - (i : Int)).toNat (q - (i : Int)).toNat (by omega) (by omega)
      rw [hx, hy] at this
      exact ⟨fun e => this.mp (by rw [e]), fun e => Option.some.inj (this.mpr e)⟩
    · walk_at "q"
      refine ⟨w, hz, hw, fun R hR => ?_⟩
      have hRl := hR.1
      walk_at "q"
      have hA : ∀ o ∈ [p - (i : Int), q - (i : Int)], 0 ≤ o ∧ o < R.length := fun o ho => by
        simp only [List.mem_cons, List.not_mem_nil, or_false] at ho
        rcases ho with rfl | rfl <;> omega
      rw [show [D.int (p - (i : Int)), D.int (q - (i : Int))] = ([p - (i : Int), q - (i : Int)] : List Int).map D.int from rfl]
      refine comp_ints (fun _ => true) (fun _ => .bl true) (fun n o acc X h1 h2 h3 h4 _ => ?_) ?_
      · have ho := hA o (List.mem_of_getElem? h1)
        have h2 : n < 2 := h2
        walk_at "q"
        refine cIf_l (decide_eq_true ho.1) ?_
        walk_at "q"
        rw [decide_eq_true (by omega : o < (R.length : Int))]
        exact ⟨by omega, h4 rfl⟩
      rw [show (([p - (i : Int), q - (i : Int)] : List Int).filter fun _ => true).map (fun _ => D.bl true) = ([p - (i : Int), q - (i : Int)] : List Int).map (fun d => D.bl ((fun _ => true) d)) by simp]
      walk_at "q"
      refine cIf_l rfl ?_
      rw [show ([p - (i : Int), q - (i : Int)] : List Int).map D.int = [D.int (p - (i : Int)), D.int (q - (i : Int))] from rfl]
      walk_at "q"
      refine ix_ints (by omega) (by omega) fun x hx => ?_
      walk_at "q"
      refine ix_ints (by omega) (by omega) fun y hy => ?_
      walk_at "q"
      refine h x y ?_
      have := hR.2 (p - (i : Int)).toNat (q - (i : Int)).toNat (by omega) (by omega)
      rw [hx, hy] at this
      exact ⟨fun e => this.mp (by rw [e]), fun e => Option.some.inj (this.mpr e)⟩
theorem cal_window_symbols (T : Tx K mg) : Cal P w K mg base g 2 "window_symbols" [] sp_window_symbols := by
  obtain ⟨fd, G, Fn⟩ := fn_window_symbols (P := P) (w := w) (base := base) (g := g) T
  exact ⟨_, fd, _, [], G, T.g_window_symbols, Fn.kp, Fn.bindsN fun _ _ _ _ _ _ us hl => match us, hl with | [_, _, _], _ => rfl, .nil, rfl⟩
end

local macro_rules | `(tactic| walk_at "p") => `(tactic| (repeat (rw [pkV]; try walk_at "q")))
local macro_rules | `(tactic| walk_at "len") => `(tactic| (first | omega | (simp only [List.length_map, List.length_append, List.length_reverse, List.length_take, List.length_drop, List.length_dropLast, List.length_cons, List.length_nil, List.length_set, List.length_replicate, dist_length, nxt_length, idsD_length, numbered_length, ranged_length, upto_length]; omega)))
local macro_rules | `(tactic| walk_at "q") => `(tactic| (try simp only [↓hold1, ↓hold2, ↓cIf_t, ↓cIf_f, ↓lk0, ↓lk1, ↓st0, ↓st1, ↓wp0, ↓wp1, ↓wpm, ↓wpn, ↓sD_sh, ↓sD_own, ↓sD_bor, ↓rd_d, ↓rd_p, ↓dB_b, ↓dI_i, ↓dX_x, ↓dK_i, ↓dK_s, ↓dL_l, ↓dIt_l, ↓dIt_t, ↓dIt_s, ↓shS_sh, ↓shS_own, ↓shS_bor, ↓sh1_d, ↓sh1_p, ↓shs0, ↓shs1, ↓ress0, ↓ress1, ↓bagS_b, ↓arg_bor, ↓arg_sh, ↓arg_bag, ↓args0, ↓args1, ↓ap0, ↓ap0', ↓ap1, ↓reS_sh, ↓reS_own, ↓reS_bor, ↓ret_d, ↓ret_p, ↓asS_sh, ↓asS_own, ↓asS_bor, ↓as_d, ↓as_p, ↓rv_sh, ↓rv_own, ↓da_sh, ↓da_own, ↓itS_sh, ↓itS_own, ↓itS_bor, ↓it_d, ↓it_p, ↓e_var, ↓e_sh, ↓e_own, ↓e_bor, ↓e_bag, ↓e_c, ↓e_op, ↓e_opR, ↓e_test, ↓e_and, ↓e_or, ↓e_not, ↓e_andV, ↓e_orV, ↓e_notV, ↓e_ifE, ↓e_nil, ↓e_cons, ↓e_cb, ↓e_cbR, ↓e_ofN, ↓e_lst, ↓e_tup, ↓e_call, ↓e_callS, ↓e_next, ↓e_seq, ↓e_drop, ↓e_ret, ↓e_retN, ↓e_if, ↓e_set, ↓e_setN, ↓e_raise, ↓e_name, ↓e_gnil, ↓e_gcons, ↓e_gtup, ↓e_for, ↓e_seqI, ↓e_enum, ↓rg1_i, ↓rg2_i, ↓e_rng1, ↓e_rng2, ↓e_lc, ↓e_yes, ↓e_onone, ↓e_osome, ↓e_sl, ↓e_isi, ↓e_isi2, ↓ownL_l, ↓ownA_l, ↓sO_o, ↓e_meth, ↓e_dnew, ↓e_dput, ↓e_lput, ↓e_lenSet, ↓e_chain, ↓e_asgT, ↓e_toN, ↓e_parN, ↓e_getD, ↓f_inC, ↓f_inI, ↓f_inIT, ↓f_inS, ↓pkC0, ↓pkC_sh, ↓pkC_own, ↓pkC_bor, ↓pkC_bag, ↓pkC_no, ↓f_ix0, ↓f_ix1, ↓f_ix2, ↓f_ix3, ↓f_ix4, ↓f_ixT0, ↓f_ixT1, ↓f_ixT2, ↓f_ixT3, ↓f_ixT4, ↓e_loopC, ↓e_loopN, ↓e_step, ↓e_exI, ↓e_toI, ↓f_eqW1, ↓f_eqW2, ↓f_eqW3, ↓f_sortI, ↓f_eqNN, ↓f_notScrL, ↓f_notScrT, ↓f_eqSL, ↓f_neSL, ↓f_eqSNil, ↓f_neSNil, ↓f_neNN, ↓e_lstRg1, ↓e_ifN, ↓e_ixl0, ↓e_ixl1, ↓e_ixl2, ↓e_ixl3, ↓e_ixt0, ↓e_ixt1, ↓e_ixt2, ↓e_ixt3, ↓f_inT2S, ↓f_eqNl, ↓e_isEx, ↓f_nonE, ↓f_empC, ↓f_empN, ↓e_dObj, ↓e_lkHit, ↓e_pfHit, ↓e_pfNil, ↓e_fld, ↓e_fput, ↓e_startM, ↓e_mnx, ↓e_mrt, ↓e_mex, ↓e_npN, ↓e_npD, ↓e_npB, ↓e_npP, ↓e_callM, ↓e_callR, ↓e_make, ↓e_ty_int_T, ↓e_ty_int_O, ↓e_ty_bool_T, ↓e_ty_bool_O, ↓e_ty_str_T, ↓e_ty_str_O, ↓e_ty_list_T, ↓e_ty_list_O, ↓e_ty_tuple_T, ↓e_ty_tuple_O, ↓e_ty_dict_T, ↓e_ty_dict_O, ↓e_gunl, ↓f_sortITl, ↓f_sortITt, ↓e_tryC, ↓f_sub, ↓f_mod, ↓f_div, ↓f_divW, ↓f_pow, ↓f_lt, ↓f_le, ↓f_gt, ↓f_ge, ↓f_addI, ↓f_addS, ↓f_addL, ↓f_mulI, ↓f_mulL, ↓f_eqI, ↓f_neI, ↓f_eqS, ↓f_neS, ↓f_eqB, ↓f_neB, ↓f_isN, ↓f_isNotN, ↓f_lenL, ↓f_lenT, ↓f_lenR, ↓f_lenS, ↓f_min, ↓f_max, ↓f_abs, ↓f_intI, ↓f_intB, ↓f_listL, ↓f_listT, ↓f_listS, ↓f_tupL, ↓f_slL, ↓f_slR, ↓f_slT, ↓f_app, ↓f_ext, ↓f_allM, ↓f_anyM, ↓f_eqIL, ↓f_neIL, ↓f_eqIT, ↓f_neIT, ↓f_eqNil, ↓f_neNil, ↓e_is_integer_distances, ↓e_is_integer_distancesN, ↓e_is_sequence_distances, ↓e_is_distances, ↓e_is_integer_facts, ↓e_is_sequence_facts, ↓e_check_size, ↓e_are_two_positions, ↓e_is_fact_of, ↓e_check_positions, ↓e_distances_by, ↓e_linked_offsets, ↓e_representatives, ↓e_window_symbols, ty_int_n, ty_int_b, ty_int_i, ty_int_s, ty_int_l, ty_int_t, ty_int_r, ty_int_d, ty_int_e, ty_bool_n, ty_bool_b, ty_bool_i, ty_bool_s, ty_bool_l, ty_bool_t, ty_bool_r, ty_bool_d, ty_bool_e, ty_str_n, ty_str_b, ty_str_i, ty_str_s, ty_str_l, ty_str_t, ty_str_r, ty_str_d, ty_str_e, ty_list_n, ty_list_b, ty_list_i, ty_list_s, ty_list_l, ty_list_t, ty_list_r, ty_list_d, ty_list_e, ty_tuple_n, ty_tuple_b, ty_tuple_i, ty_tuple_s, ty_tuple_l, ty_tuple_t, ty_tuple_r, ty_tuple_d, ty_tuple_e, ty_dict_n, ty_dict_b, ty_dict_i, ty_dict_s, ty_dict_l, ty_dict_t, ty_dict_r, ty_dict_d, ty_dict_e, cIf_t, cIf_f, cIf_n, isSc_n, isSc_b, isSc_i, isSc_s, ex_some, Int.reduceLT, Int.reduceLE, Int.reduceGT, Int.reduceGE, Int.reduceEq, Int.reduceNe, Int.reduceAdd, Int.reduceSub, Int.reduceMul, Int.reduceNeg, Int.reduceToNat, Int.reducePow, Nat.reduceLT, Nat.reduceAdd, Nat.reduceSub, Nat.reduceLeDiff, Nat.reduceEqDiff, Nat.reduceMul, Int.cast_ofNat_Int, true_or, true_and, and_true, List.length_cons, List.length_nil, List.length_map, n_n, n_b, n_i, n_s, n_l, n_t, se_c, se_n, se_0, ar_b, ar_s, ar_g, Bool.or_true, Bool.true_or, Bool.or_false, Bool.false_or, Bool.and_true, Bool.true_and, Bool.and_false, Bool.false_and, Bool.not_true, Bool.not_false, Bool.not_not, decide_true, decide_false, int_app, filter_tt, eq_self, Option.map_some, Option.map_none, Option.isSome_some, Option.isSome_none, Bool.false_eq_true, if_false, if_true, Nat.zero_add, Int.zero_add, Int.add_zero, Int.sub_zero, List.map_nil, List.nil_append, List.append_nil, int_rev, int_take, int_drop, int_dropLast, int_appL, e_toI, e_is_integer_distances, e_is_integer_distancesN, e_is_sequence_distances, e_is_distances, e_is_integer_facts, e_is_sequence_facts, e_check_size, e_are_two_positions, e_is_fact_of, e_check_positions, e_distances_by, e_linked_offsets, e_representatives, e_window_symbols]))

/-! ### states_different -/

def sp_states_different : Spq := fun as k x => ∃ (d : D) (p : Int) (q : Int), as = [.bor d, .bor (.int p), .bor (.int q)] ∧ (∃ (f : Fc) (r : Bool), (FcAt f d ∧ SDok p q r f) ∧ k (.sh (.bl r)))
theorem e_states_different {d : D} {p : Int} {q : Int} {k : Rv → Prop} {x : Str → List D → Prop} : sp_states_different [.bor d, .bor (.int p), .bor (.int q)] k x = (∃ (f : Fc) (r : Bool), (FcAt f d ∧ SDok p q r f) ∧ k (.sh (.bl r))) := propext ⟨fun h => (by
  obtain ⟨d2, p2, q2, h, q⟩ := h
  simp only [List.cons.injEq, Ar.bor.injEq, Ar.sh.injEq, Ar.bag.injEq, D.lst.injEq, D.tup.injEq, D.int.injEq, D.str.injEq, D.bl.injEq, ints_inj, strs_inj, and_true, true_and] at h
  (obtain ⟨rfl, rfl, rfl⟩ := h)
  exact q), fun q => ⟨_, _, _, rfl, q⟩⟩

section
variable {P : Program} {w : World} {K : Fg} {mg : Str → Option Value} {base : Heap} {g : Gd}
theorem sc_states_different : FnScope ["fact", "one", "other", "symbols"] ["fact", "one", "other"] (defScope s_states_different) := ⟨rfl, rfl, rfl, by decide +kernel, rfl, by decide +kernel, by decide +kernel⟩
theorem fn_states_different (T : Tx K mg) : ∃ fd, FnG P w K mg base 3 (He.ga K "states_different") fd ["fact", "one", "other"] (spQ K mg g sp_states_different) ∧ FunD K "states_different" "states_different" (defArgs s_states_different) (defBody s_states_different) (defScope s_states_different) [] [] (He.ga K "states_different") fd := by
  have sc := sc_states_different
  have C_window_symbols : Cal P w K mg base g 2 "window_symbols" [] sp_window_symbols := cal_window_symbols T
  obtain ⟨t_DIFFERENT, h_DIFFERENT⟩ := T.c_DIFFERENT
  obtain ⟨t_WINDOW, h_WINDOW⟩ := T.c_WINDOW
  obtain ⟨fd, Fn⟩ := T.f_states_different
  refine ⟨fd, fn_q g Fn sc (by decide) (fun as k x h => ?_) fun cdv A outer s H E hgd hr => ?_, Fn⟩
  · unfold sp_states_different at h; first | (split at h <;> first | rfl | exact h.elim) | (obtain ⟨_, rfl, _⟩ := h; rfl) | (obtain ⟨_, _, rfl, _⟩ := h; rfl) | (obtain ⟨_, _, _, rfl, _⟩ := h; rfl) | (obtain ⟨_, _, _, _, rfl, _⟩ := h; rfl) | (obtain ⟨_, _, _, _, _, rfl, _⟩ := h; rfl) | (obtain ⟨_, _, _, _, _, _, rfl, _⟩ := h; rfl)
  · have tk : Takes (cxOf (L2.CX P w) P w K mg base ["fact", "one", "other", "symbols"] "states_different" (defScope s_states_different) (He.ga K "states_different") cdv A outer s H E) (fun cls d _ H => E cls d H) := takes_of rfl rfl rfl rfl
    refine ⟨_, _, (qs_cons (qs_if (qt_cmp (or_eqQ (by exact hr.units)) o_eq (q_ix ix_Q o_ix (q_var 0) q_int (by exact fun _ _ => rfl)) (q_glob (v := V.str (Str.ofString "different")) (d := D.str (Str.ofString "different")) (by exact rfl) h_DIFFERENT ⟨_, rfl⟩ (by exact rfl) (by decide)) (by first | exact nomark _ | rfl)) (qs_one (qs_ret (q_cmp (or_eqQ (by exact hr.units)) o_eq (QN.qe (qn_cb call_sortIT c_sortIT (by exact rfl) T.z_sorted (by decide +kernel) (qa_cons (QN.qe (qn_lst (qa_cons (q_var 1) (qa_cons (q_var 2) qa_nil (by rfl)) (by rfl)))) qa_nil (by rfl)) (by decide) (by decide) (by rfl) (by rfl))) (QN.qe (qn_cb call_sortIT c_sortIT (by exact rfl) T.z_sorted (by decide +kernel) (qa_cons (QN.qe (qn_sl sl_Q o_sl (q_var 0) (qo_some q_int) qo_none)) qa_nil (by rfl)) (by decide) (by decide) (by rfl) (by rfl))) (by first | exact nomark _ | rfl)))) qs_nil)
      (qs_cons (qs_set (i := 3) (by exact sc.nd) (by exact rfl) (Or.inl rfl) (q_ifExp (qt_cmp (or_eqQ (by exact hr.units)) o_eq (q_ix ix_Q o_ix (q_var 0) q_int (by exact fun _ _ => rfl)) (q_glob (v := V.str (Str.ofString "window")) (d := D.str (Str.ofString "window")) (by exact rfl) h_WINDOW ⟨_, rfl⟩ (by exact rfl) (by decide)) (by first | exact nomark _ | rfl)) (QN.qe (qn_call [.bor, .bor, .bor] C_window_symbols (by exact hgd) (by exact hr) (by omega) (by exact rfl) (qa_cons (q_var 0) (qa_cons (q_var 1) (qa_cons (q_var 2) qa_nil (by rfl)) (by rfl)) (by rfl)) (by decide) (by rfl) (by rfl))) q_non) (by rfl) (by first | exact .inl rfl | exact .inr rfl | assumption))
      (qs_one (qs_ret (q_and (q_cmp op_notN o_isNot (q_var 3) q_non (by first | exact nomark _ | rfl)) (q_one (q_cmp (or_neQ (by exact hr.units)) o_ne (q_ix ix_Q o_ix (q_var 3) q_int (by exact fun _ _ => rfl)) (q_ix ix_Q o_ix (q_var 3) q_int (by exact fun _ _ => rfl)) (by first | exact nomark _ | rfl)))))))), fun as k x h => ?_⟩
    clear tk hr hgd Fn sc T
    obtain ⟨d, p, q, rfl, f, r, ⟨hd, hs⟩, h⟩ := h
    rcases hd with hd | hd <;> cases hd
    · exact False.elim hs
    · rename_i i j
      obtain ⟨rfl, rfl, rfl⟩ := hs
      walk_at "q"
      rw [show [D.int (i : Int), D.int (j : Int)] = [(i : Int), (j : Int)].map D.int from rfl, f_sortI]
      intro zs hp hz
      rw [sort2 hp hz]
      walk_at "q"
      rw [show cut (D.str (Str.ofString "different") :: List.map D.int [(i : Int), (j : Int)]) (some 1) none = List.map D.int [(i : Int), (j : Int)] from rfl, f_sortI]
      intro zs2 hp2 hz2
      rw [sort2 hp2 hz2]
      walk_at "q"
      exact h
    · exact False.elim hs
    · rename_i i w
      obtain ⟨⟨w0, ⟨p0, p1⟩, q0, q1⟩, rfl⟩ := hs
      walk_at "q"
      refine cIf_r (by decide +kernel) ?_
      walk_at "q"
      refine ⟨i, w, ⟨.lst .winL, w0, ⟨p0, p1⟩, q0, q1⟩, fun x y hxy => ?_⟩
      rw [show (!decide (x = y)) = decide (w[(p - i).toNat]? ≠ w[(q - i).toNat]?) by simp only [ne_eq, decide_not, hxy]]
      exact h
    · rename_i i w
      obtain ⟨⟨w0, ⟨p0, p1⟩, q0, q1⟩, rfl⟩ := hs
      walk_at "q"
      refine cIf_r (by decide +kernel) ?_
      walk_at "q"
      refine ⟨i, w, ⟨.lst .winT, w0, ⟨p0, p1⟩, q0, q1⟩, fun x y hxy => ?_⟩
      rw [show (!decide (x = y)) = decide (w[(p - i).toNat]? ≠ w[(q - i).toNat]?) by simp only [ne_eq, decide_not, hxy]]
      exact h
    · exact False.elim hs
    · rename_i i j
      obtain ⟨rfl, rfl, rfl⟩ := hs
      walk_at "q"
      rw [show [D.int (i : Int), D.int (j : Int)] = [(i : Int), (j : Int)].map D.int from rfl, f_sortI]
      intro zs hp hz
      rw [sort2 hp hz]
      walk_at "q"
      refine ⟨by decide, ?_⟩
      rw [show cut (D.str (Str.ofString "different") :: List.map D.int [(i : Int), (j : Int)]) (some 1) none = List.map D.int [(i : Int), (j : Int)] from rfl, f_sortITt]
      intro zs2 hp2 hz2
      rw [sort2 hp2 hz2]
      walk_at "q"
      exact h
    · exact False.elim hs
    · rename_i i w
      obtain ⟨⟨w0, ⟨p0, p1⟩, q0, q1⟩, rfl⟩ := hs
      walk_at "q"
      refine cIf_r (by decide +kernel) ?_
      walk_at "q"
      refine ⟨i, w, ⟨.tup .winL, w0, ⟨p0, p1⟩, q0, q1⟩, fun x y hxy => ?_⟩
      rw [show (!decide (x = y)) = decide (w[(p - i).toNat]? ≠ w[(q - i).toNat]?) by simp only [ne_eq, decide_not, hxy]]
      exact h
    · rename_i i w
      obtain ⟨⟨w0, ⟨p0, p1⟩, q0, q1⟩, rfl⟩ := hs
      walk_at "q"
      refine cIf_r (by decide +kernel) ?_
      walk_at "q"
      refine ⟨i, w, ⟨.tup .winT, w0, ⟨p0, p1⟩, q0, q1⟩, fun x y hxy => ?_⟩
      rw [show (!decide (x = y)) = decide (w[(p - i).toNat]? ≠ w[(q - i).toNat]?) by simp only [ne_eq, decide_not, hxy]]
      exact h
theorem cal_states_different (T : Tx K mg) : Cal P w K mg base g 3 "states_different" [] sp_states_different := by
  obtain ⟨fd, G, Fn⟩ := fn_states_different (P := P) (w := w) (base := base) (g := g) T
  exact ⟨_, fd, _, [], G, T.g_states_different, Fn.kp, Fn.bindsN fun _ _ _ _ _ _ us hl => match us, hl with | [_, _, _], _ => rfl, .nil, rfl⟩
end

local macro_rules | `(tactic| walk_at "p") => `(tactic| (repeat (rw [pkV]; try walk_at "q")))
local macro_rules | `(tactic| walk_at "len") => `(tactic| (first | omega | (simp only [List.length_map, List.length_append, List.length_reverse, List.length_take, List.length_drop, List.length_dropLast, List.length_cons, List.length_nil, List.length_set, List.length_replicate, dist_length, nxt_length, idsD_length, numbered_length, ranged_length, upto_length]; omega)))
local macro_rules | `(tactic| walk_at "q") => `(tactic| (try simp only [↓hold1, ↓hold2, ↓cIf_t, ↓cIf_f, ↓lk0, ↓lk1, ↓st0, ↓st1, ↓wp0, ↓wp1, ↓wpm, ↓wpn, ↓sD_sh, ↓sD_own, ↓sD_bor, ↓rd_d, ↓rd_p, ↓dB_b, ↓dI_i, ↓dX_x, ↓dK_i, ↓dK_s, ↓dL_l, ↓dIt_l, ↓dIt_t, ↓dIt_s, ↓shS_sh, ↓shS_own, ↓shS_bor, ↓sh1_d, ↓sh1_p, ↓shs0, ↓shs1, ↓ress0, ↓ress1, ↓bagS_b, ↓arg_bor, ↓arg_sh, ↓arg_bag, ↓args0, ↓args1, ↓ap0, ↓ap0', ↓ap1, ↓reS_sh, ↓reS_own, ↓reS_bor, ↓ret_d, ↓ret_p, ↓asS_sh, ↓asS_own, ↓asS_bor, ↓as_d, ↓as_p, ↓rv_sh, ↓rv_own, ↓da_sh, ↓da_own, ↓itS_sh, ↓itS_own, ↓itS_bor, ↓it_d, ↓it_p, ↓e_var, ↓e_sh, ↓e_own, ↓e_bor, ↓e_bag, ↓e_c, ↓e_op, ↓e_opR, ↓e_test, ↓e_and, ↓e_or, ↓e_not, ↓e_andV, ↓e_orV, ↓e_notV, ↓e_ifE, ↓e_nil, ↓e_cons, ↓e_cb, ↓e_cbR, ↓e_ofN, ↓e_lst, ↓e_tup, ↓e_call, ↓e_callS, ↓e_next, ↓e_seq, ↓e_drop, ↓e_ret, ↓e_retN, ↓e_if, ↓e_set, ↓e_setN, ↓e_raise, ↓e_name, ↓e_gnil, ↓e_gcons, ↓e_gtup, ↓e_for, ↓e_seqI, ↓e_enum, ↓rg1_i, ↓rg2_i, ↓e_rng1, ↓e_rng2, ↓e_lc, ↓e_yes, ↓e_onone, ↓e_osome, ↓e_sl, ↓e_isi, ↓e_isi2, ↓ownL_l, ↓ownA_l, ↓sO_o, ↓e_meth, ↓e_dnew, ↓e_dput, ↓e_lput, ↓e_lenSet, ↓e_chain, ↓e_asgT, ↓e_toN, ↓e_parN, ↓e_getD, ↓f_inC, ↓f_inI, ↓f_inIT, ↓f_inS, ↓pkC0, ↓pkC_sh, ↓pkC_own, ↓pkC_bor, ↓pkC_bag, ↓pkC_no, ↓f_ix0, ↓f_ix1, ↓f_ix2, ↓f_ix3, ↓f_ix4, ↓f_ixT0, ↓f_ixT1, ↓f_ixT2, ↓f_ixT3, ↓f_ixT4, ↓e_loopC, ↓e_loopN, ↓e_step, ↓e_exI, ↓e_toI, ↓f_eqW1, ↓f_eqW2, ↓f_eqW3, ↓f_sortI, ↓f_eqNN, ↓f_notScrL, ↓f_notScrT, ↓f_eqSL, ↓f_neSL, ↓f_eqSNil, ↓f_neSNil, ↓f_neNN, ↓e_lstRg1, ↓e_ifN, ↓e_ixl0, ↓e_ixl1, ↓e_ixl2, ↓e_ixl3, ↓e_ixt0, ↓e_ixt1, ↓e_ixt2, ↓e_ixt3, ↓f_inT2S, ↓f_eqNl, ↓e_isEx, ↓f_nonE, ↓f_empC, ↓f_empN, ↓e_dObj, ↓e_lkHit, ↓e_pfHit, ↓e_pfNil, ↓e_fld, ↓e_fput, ↓e_startM, ↓e_mnx, ↓e_mrt, ↓e_mex, ↓e_npN, ↓e_npD, ↓e_npB, ↓e_npP, ↓e_callM, ↓e_callR, ↓e_make, ↓e_ty_int_T, ↓e_ty_int_O, ↓e_ty_bool_T, ↓e_ty_bool_O, ↓e_ty_str_T, ↓e_ty_str_O, ↓e_ty_list_T, ↓e_ty_list_O, ↓e_ty_tuple_T, ↓e_ty_tuple_O, ↓e_ty_dict_T, ↓e_ty_dict_O, ↓e_gunl, ↓f_sortITl, ↓f_sortITt, ↓e_tryC, ↓f_sub, ↓f_mod, ↓f_div, ↓f_divW, ↓f_pow, ↓f_lt, ↓f_le, ↓f_gt, ↓f_ge, ↓f_addI, ↓f_addS, ↓f_addL, ↓f_mulI, ↓f_mulL, ↓f_eqI, ↓f_neI, ↓f_eqS, ↓f_neS, ↓f_eqB, ↓f_neB, ↓f_isN, ↓f_isNotN, ↓f_lenL, ↓f_lenT, ↓f_lenR, ↓f_lenS, ↓f_min, ↓f_max, ↓f_abs, ↓f_intI, ↓f_intB, ↓f_listL, ↓f_listT, ↓f_listS, ↓f_tupL, ↓f_slL, ↓f_slR, ↓f_slT, ↓f_app, ↓f_ext, ↓f_allM, ↓f_anyM, ↓f_eqIL, ↓f_neIL, ↓f_eqIT, ↓f_neIT, ↓f_eqNil, ↓f_neNil, ↓e_is_integer_distances, ↓e_is_integer_distancesN, ↓e_is_sequence_distances, ↓e_is_distances, ↓e_is_integer_facts, ↓e_is_sequence_facts, ↓e_check_size, ↓e_are_two_positions, ↓e_is_fact_of, ↓e_check_positions, ↓e_distances_by, ↓e_linked_offsets, ↓e_representatives, ↓e_window_symbols, ↓e_states_different, ty_int_n, ty_int_b, ty_int_i, ty_int_s, ty_int_l, ty_int_t, ty_int_r, ty_int_d, ty_int_e, ty_bool_n, ty_bool_b, ty_bool_i, ty_bool_s, ty_bool_l, ty_bool_t, ty_bool_r, ty_bool_d, ty_bool_e, ty_str_n, ty_str_b, ty_str_i, ty_str_s, ty_str_l, ty_str_t, ty_str_r, ty_str_d, ty_str_e, ty_list_n, ty_list_b, ty_list_i, ty_list_s, ty_list_l, ty_list_t, ty_list_r, ty_list_d, ty_list_e, ty_tuple_n, ty_tuple_b, ty_tuple_i, ty_tuple_s, ty_tuple_l, ty_tuple_t, ty_tuple_r, ty_tuple_d, ty_tuple_e, ty_dict_n, ty_dict_b, ty_dict_i, ty_dict_s, ty_dict_l, ty_dict_t, ty_dict_r, ty_dict_d, ty_dict_e, cIf_t, cIf_f, cIf_n, isSc_n, isSc_b, isSc_i, isSc_s, ex_some, Int.reduceLT, Int.reduceLE, Int.reduceGT, Int.reduceGE, Int.reduceEq, Int.reduceNe, Int.reduceAdd, Int.reduceSub, Int.reduceMul, Int.reduceNeg, Int.reduceToNat, Int.reducePow, Nat.reduceLT, Nat.reduceAdd, Nat.reduceSub, Nat.reduceLeDiff, Nat.reduceEqDiff, Nat.reduceMul, Int.cast_ofNat_Int, true_or, true_and, and_true, List.length_cons, List.length_nil, List.length_map, n_n, n_b, n_i, n_s, n_l, n_t, se_c, se_n, se_0, ar_b, ar_s, ar_g, Bool.or_true, Bool.true_or, Bool.or_false, Bool.false_or, Bool.and_true, Bool.true_and, Bool.and_false, Bool.false_and, Bool.not_true, Bool.not_false, Bool.not_not, decide_true, decide_false, int_app, filter_tt, eq_self, Option.map_some, Option.map_none, Option.isSome_some, Option.isSome_none, Bool.false_eq_true, if_false, if_true, Nat.zero_add, Int.zero_add, Int.add_zero, Int.sub_zero, List.map_nil, List.nil_append, List.append_nil, int_rev, int_take, int_drop, int_dropLast, int_appL, e_toI, e_is_integer_distances, e_is_integer_distancesN, e_is_sequence_distances, e_is_distances, e_is_integer_facts, e_is_sequence_facts, e_check_size, e_are_two_positions, e_is_fact_of, e_check_positions, e_distances_by, e_linked_offsets, e_representatives, e_window_symbols, e_states_different]))

/-! ### violated_pair -/
def sp_violated_pair : Spq := fun as k _ => ∃ (L : List Int) (p : Addr) (f : Fc) (d : D), as = [.bor (.obj "Partition" p (ldF L)), .bor d] ∧ (FcAt f d ∧ FcOk L.length f ∧ L.length ≤ 1000) ∧ ∀ r : D, (r = .non ∧ ¬ Viol L f ∨ (∃ i j : Int, r = .tup [.int i, .int j]) ∧ Viol L f) → k (.sh r)
section
variable {P : Program} {w : World} {K : Fg} {mg : Str → Option Value} {base : Heap} {g : Gd}
theorem sc_violated_pair : FnScope ["partition", "fact", "pairs", "one", "other", "end"] ["partition", "fact"] (defScope s_violated_pair) := ⟨rfl, rfl, rfl, by decide +kernel, rfl, by decide +kernel, by decide +kernel⟩
theorem fn_violated_pair (T : Tx K mg) : ∃ fd, FnG P w K mg base 4 (He.ga K "violated_pair") fd ["partition", "fact"] (spQ K mg g sp_violated_pair) ∧ FunD K "violated_pair" "violated_pair" (defArgs s_violated_pair) (defBody s_violated_pair) (defScope s_violated_pair) [] [] (He.ga K "violated_pair") fd := by
  have sc := sc_violated_pair
  have C_Partition_are_equal : RCal P w K mg base g 1 "Partition" "are_equal" [] sp_Partition_are_equal := cal_Partition_are_equal T
  have C_states_different : Cal P w K mg base g 3 "states_different" [] sp_states_different := cal_states_different T
  obtain ⟨t_DIFFERENT, h_DIFFERENT⟩ := T.c_DIFFERENT
  obtain ⟨t_WINDOW, h_WINDOW⟩ := T.c_WINDOW
  obtain ⟨fd, Fn⟩ := T.f_violated_pair
  refine ⟨fd, fn_q g Fn sc (by decide) (fun as k x h => ?_) fun cdv A outer s H E hgd hr => ?_, Fn⟩
  · unfold sp_violated_pair at h; first | (split at h <;> first | rfl | exact h.elim) | (obtain ⟨_, rfl, _⟩ := h; rfl) | (obtain ⟨_, _, rfl, _⟩ := h; rfl) | (obtain ⟨_, _, _, rfl, _⟩ := h; rfl) | (obtain ⟨_, _, _, _, rfl, _⟩ := h; rfl) | (obtain ⟨_, _, _, _, _, rfl, _⟩ := h; rfl) | (obtain ⟨_, _, _, _, _, _, rfl, _⟩ := h; rfl)
  · have tk : Takes (cxOf (L2.CX P w) P w K mg base ["partition", "fact", "pairs", "one", "other", "end"] "violated_pair" (defScope s_violated_pair) (He.ga K "violated_pair") cdv A outer s H E) (fun cls d _ H => E cls d H) := takes_of rfl rfl rfl rfl
    refine ⟨_, _, (qs_cons (qs_setN (i := 2) (by exact sc.nd) (by exact rfl) (Or.inl rfl) (qn_lst qa_nil) (by rfl) (by first | exact .inl rfl | exact .inr rfl | assumption))
      (qs_cons (qs_if (qt_cmp (or_eqQ (by exact hr.units)) o_eq (q_ix ix_Q o_ix (q_var 1) q_int (by exact fun _ _ => rfl)) (q_glob (v := V.str (Str.ofString "different")) (d := D.str (Str.ofString "different")) (by exact rfl) h_DIFFERENT ⟨_, rfl⟩ (by exact rfl) (by decide)) (by first | exact nomark _ | rfl)) (qs_one (qs_expr (q_meth (i := 2) PySem.F.slot_list_append PySem.F.type_list_append mt_append m_append (by exact rfl) (by first | exact Or.inl rfl | exact Or.inr (Or.inl rfl) | exact Or.inr (Or.inr rfl)) (qa_cons (q_tup (qa_cons (q_ix ix_Q o_ix (q_var 1) q_int (by exact fun _ _ => rfl)) (qa_cons (q_ix ix_Q o_ix (q_var 1) q_int (by exact fun _ _ => rfl)) qa_nil (by rfl)) (by rfl))) qa_nil (by rfl)) (by decide) (by decide) (by rfl) (by rfl) (by rfl) (by rfl) (by rfl)) (by rfl))) (qs_one (qs_if (qt_cmp (or_eqQ (by exact hr.units)) o_eq (q_ix ix_Q o_ix (q_var 1) q_int (by exact fun _ _ => rfl)) (q_glob (v := V.str (Str.ofString "window")) (d := D.str (Str.ofString "window")) (by exact rfl) h_WINDOW ⟨_, rfl⟩ (by exact rfl) (by decide)) (by first | exact nomark _ | rfl)) (qs_cons (qs_setN (i := 5) (by exact sc.nd) (by exact rfl) (Or.inl rfl) (qn_opR or_addQ o_add (q_ix ix_Q o_ix (q_var 1) q_int (by exact fun _ _ => rfl)) (q_callB call_len c_len (by exact rfl) T.z_len (by decide +kernel) (qa_cons (q_ix ix_Q o_ix (q_var 1) q_int (by exact fun _ _ => rfl)) qa_nil (by rfl)) (by decide) (by decide) (by rfl) (by rfl))) (by rfl) (by first | exact .inl rfl | exact .inr rfl | assumption))
      (qs_one (qs_for [3] (qi_range2 (by exact rfl) T.z_range (qa_cons (q_ix ix_Q o_ix (q_var 1) q_int (by exact fun _ _ => rfl)) (qa_cons (q_var 5) qa_nil (by rfl)) (by rfl)) (by rfl) (by rfl)) (qg_name (i := 3) (by exact sc.nd) (by exact rfl) (by first | exact Or.inl rfl | exact Or.inr rfl) (by decide) (by first | exact .inl rfl | exact .inr rfl | assumption))
      (qs_one (qs_expr (q_meth (i := 2) PySem.F.slot_list_extend PySem.F.type_list_extend mt_extend m_extend (by exact rfl) (by first | exact Or.inl rfl | exact Or.inr (Or.inl rfl) | exact Or.inr (Or.inr rfl)) (qa_cons (QN.qe (qn_lcB [("other", 4)] (by exact rfl) (by exact sc.nd) (qi_range2 (by exact rfl) T.z_range (qa_cons (QN.qe (qn_opR or_addQ o_add (q_var 3) q_int)) (qa_cons (q_var 5) qa_nil (by rfl)) (by rfl)) (by rfl) (by rfl)) (blkOk_by (by kernel_rfl)) (fun _ _ _ _ _ => (qg_name (i := 4) (by exact sc.nd) (by exact rfl) (by first | exact Or.inl rfl | exact Or.inr rfl) (by decide) (by first | exact .inl rfl | exact .inr rfl | assumption))) (fun _ _ _ _ _ => qts_nil) (fun _ _ _ _ _ => (q_tup (qa_cons (q_var 3) (qa_cons (q_var 4) qa_nil (by rfl)) (by rfl)))) (by intro _; rfl) (by intros; rfl) (by intros; rfl) (by intros; rfl))) qa_nil (by rfl)) (by decide) (by decide) (by rfl) (by rfl) (by rfl) (by rfl) (by rfl)) (by rfl))) (passes_of (by exact rfl)) (by rfl) (by intro _; rfl)))) qs_nil)))
      (qs_cons (qs_for [3, 4] (qi_seq (q_var 2)) (qg_tup (n := 2) (by exact rfl) (qgs_cons (qg_name (i := 3) (by exact sc.nd) (by exact rfl) (by first | exact Or.inl rfl | exact Or.inr rfl) (by decide) (by first | exact .inl rfl | exact .inr rfl | assumption)) (qgs_cons (qg_name (i := 4) (by exact sc.nd) (by exact rfl) (by first | exact Or.inl rfl | exact Or.inr rfl) (by decide) (by first | exact .inl rfl | exact .inr rfl | assumption)) qgs_nil (by rfl)) (by rfl)) (by rfl) (by rfl))
      (qs_one (qs_if (QW.toT (qw_and (qt_val (QN.qe (qn_callR [.bor, .bor] T.o_Partition C_Partition_are_equal (by exact hgd) (by exact hr) (by omega) (q_var 0) (qa_cons (q_var 3) (qa_cons (q_var 4) qa_nil (by rfl)) (by rfl)) (by rfl) (by rfl) (by rfl))) (by intro _; rfl)) (qw_and1 (qt_val (QN.qe (qn_call [.bor, .bor, .bor] C_states_different (by exact hgd) (by exact hr) (by omega) (by exact rfl) (qa_cons (q_var 1) (qa_cons (q_var 3) (qa_cons (q_var 4) qa_nil (by rfl)) (by rfl)) (by rfl)) (by decide) (by rfl) (by rfl))) (by intro _; rfl))))) (qs_one (qs_ret (q_tup (qa_cons (q_var 3) (qa_cons (q_var 4) qa_nil (by rfl)) (by rfl))))) qs_nil)) (passes_of (by exact rfl)) (by rfl) (by intro _; rfl))
      (qs_one (qs_ret q_non))))), fun as k x h => ?_⟩
    clear tk hr hgd Fn sc T
    obtain ⟨L, p, f, d, rfl, ⟨hd, hf, hl⟩, h⟩ := h
    rcases hd with hd | hd <;> cases hd
    · rename_i i j
      walk_at "q"
      refine cIf_r (by decide +kernel) ?_
      walk_at "q"
      refine cIf_r (by decide +kernel) ?_
      walk_at "q"
      exact h _ (.inl ⟨rfl, id⟩)
    · rename_i i j
      obtain ⟨i1, i2, i3⟩ := hf
      walk_at "q"
      have ha : L[i]? = some L[i] := List.getElem?_eq_getElem i1
      have hb : L[j]? = some L[j] := List.getElem?_eq_getElem i2
      generalize L[i] = a at ha
      generalize L[j] = b at hb
      refine ⟨ldF_no (by decide +kernel), L, p, i, j, a, b, rfl, ⟨by omega, by omega, ha, hb⟩, ?_⟩
      walk_at "q"
      by_cases e : a = b
      · refine cIf_l (decide_eq_true e) ?_
        walk_at "q"
        refine ⟨.diff i j, true, ⟨.lst .diff, rfl, rfl, rfl⟩, ?_⟩
        walk_at "q"
        exact h _ (.inr ⟨⟨i, j, rfl⟩, by show L[i]? = L[j]?; rw [ha, hb, e]⟩)
      · refine cIf_r (decide_eq_false e) ?_
        walk_at "q"
        exact h _ (.inl ⟨rfl, fun v => e (Option.some.inj ((ha.symm.trans v).trans hb))⟩)
    · rename_i i j l
      walk_at "q"
      refine cIf_r (by decide +kernel) ?_
      walk_at "q"
      refine cIf_r (by decide +kernel) ?_
      walk_at "q"
      exact h _ (.inl ⟨rfl, id⟩)
    · rename_i i w
      have hi := hf.2
      have hw : w.length ≤ 1000 := by omega
      have hdl : (dist w).length = w.length := dist_length w
      walk_at "q"
      refine cIf_r (by decide +kernel) ?_
      walk_at "q"
      rw [hdl]
      refine ⟨by omega, ?_⟩
      rw [show ((i : Int) + (w.length : Int) - i).toNat = w.length by omega]
      refine loopJ (fun m env => ∃ s3 : Sl, env = [.bor (.obj "Partition" p (ldF L)), .bor (.lst [.str (Str.ofString "window"), .int i, .lst ((dist w).map .int)]), .own (.lst ((winP i w.length m).map Q.prD)), s3, .no, .sh (.int (i + w.length))]) ⟨_, rfl⟩ (fun m d env X hdd hJ hX => ?_) fun env hJ => ?_
      · obtain ⟨s3, rfl⟩ := hJ
        obtain ⟨hm, rfl⟩ := ranged_get hdd
        have hpl := winP_len i w.length m
        have hpm : m * w.length ≤ 1000 * 1000 := Nat.mul_le_mul (by omega) hw
        walk_at "q"
        refine ⟨by omega, ?_⟩
        rw [show ((i : Int) + (w.length : Int) - ((i : Int) + (m : Int) + 1)).toNat = w.length - (m + 1) by omega]
        unfold ranged
        refine comp_on _ (fun _ => true) (fun e => Q.prD (i + m, i + m + 1 + e)) (fun n e acc X h1 h2 h3 h4 _ => ?_) ?_
        · have h5 := h4 rfl
          simp only [Q.prD, Int.natCast_add, Int.cast_ofNat_Int] at h5
          rw [List.length_range] at h2
          unfold compStep
          walk_at "q"
          exact ⟨by omega, h5⟩
        · rw [List.filter_eq_self.mpr (fun _ _ => rfl)]
          walk_at "q"
          refine ⟨by rw [List.length_range]; omega, ?_⟩
          have e2 : (winP i w.length (m + 1)).map Q.prD = (winP i w.length m).map Q.prD ++ (List.range (w.length - (m + 1))).map (fun e => Q.prD (i + m, i + m + 1 + e)) := by
            conv => lhs; unfold winP rowP
            rw [List.map_append, List.map_map]
            rfl
          exact hX _ ⟨.sh (.int (i + m)), by rw [e2]⟩
      · obtain ⟨s3, rfl⟩ := hJ
        walk_at "q"
        rw [ranged_length]
        have hP := pairs_winP hf hw
        generalize winP i w.length w.length = P at hP
        refine loopJ (fun m env => ∃ s3 s4 : Sl, env = [.bor (.obj "Partition" p (ldF L)), .bor (.lst [.str (Str.ofString "window"), .int i, .lst ((dist w).map .int)]), .sh (.lst (P.map Q.prD)), s3, s4, .sh (.int (i + w.length))] ∧ ∀ ab ∈ P.take m, ¬ (L[ab.1]? = L[ab.2]? ∧ SDok ab.1 ab.2 true (.win i w))) ⟨_, _, rfl, by simp⟩ (fun m d env X hdd hJ hX => ?_) fun env hJ => ?_
        rotate_left
        · obtain ⟨s3, s4, rfl, hm⟩ := hJ
          walk_at "q"
          rw [List.length_map, List.take_length] at hm
          exact h _ (.inl ⟨rfl, fun v => by obtain ⟨ab, m1, e⟩ := hP.viol.mp v; exact hm ab m1 e⟩)
        obtain ⟨s3, s4, rfl, hm⟩ := hJ
        rw [List.getElem?_map] at hdd
        cases hab : P[m]? with
        | none => rw [hab] at hdd; cases hdd
        | some ab =>
        rw [hab] at hdd
        cases hdd
        obtain ⟨a, b⟩ := ab
        have mem := List.mem_of_getElem? hab
        obtain ⟨a1, b1, r, hr⟩ := hP.ok _ mem
        have a1 : a < L.length := a1
        have b1 : b < L.length := b1
        have hr : SDok a b r (.win i w) := hr
        have st : ¬ (L[a]? = L[b]? ∧ SDok a b true (.win i w)) → ∀ ab ∈ P.take (m + 1), ¬ (L[ab.1]? = L[ab.2]? ∧ SDok ab.1 ab.2 true (.win i w)) := fun hn ab hq => by
          rw [List.take_add_one, hab] at hq
          rcases List.mem_append.mp hq with hq | hq
          · exact hm ab hq
          · cases List.mem_singleton.mp (show ab ∈ [(a, b)] from hq)
            exact hn
        have ha : L[a]? = some L[a] := List.getElem?_eq_getElem a1
        have hb : L[b]? = some L[b] := List.getElem?_eq_getElem b1
        generalize L[a] = x1 at ha
        generalize L[b] = y1 at hb
        unfold Q.prD
        walk_at "q"
        refine ⟨ldF_no (by decide +kernel), L, p, a, b, x1, y1, rfl, ⟨by omega, by omega, ha, hb⟩, ?_⟩
        walk_at "q"
        by_cases e : x1 = y1
        · refine cIf_l (decide_eq_true e) ?_
          walk_at "q"
          cases r with
          | true =>
            refine ⟨.win i w, true, ⟨.lst .winL, hr⟩, ?_⟩
            walk_at "q"
            exact h _ (.inr ⟨⟨a, b, rfl⟩, hP.viol.mpr ⟨_, mem, by show L[a]? = L[b]?; rw [ha, hb, e], hr⟩⟩)
          | false =>
            refine ⟨.win i w, false, ⟨.lst .winL, hr⟩, ?_⟩
            walk_at "q"
            exact hX _ ⟨_, _, rfl, st fun z => by cases sdok_uniq hr z.2⟩
        · refine cIf_r (decide_eq_false e) ?_
          walk_at "q"
          exact hX _ ⟨_, _, rfl, st fun z => e (Option.some.inj ((ha.symm.trans z.1).trans hb))⟩
    · rename_i i w
      have hi := hf.2
      have hw : w.length ≤ 1000 := by omega
      have hdl : (dist w).length = w.length := dist_length w
      walk_at "q"
      refine cIf_r (by decide +kernel) ?_
      walk_at "q"
      rw [hdl]
      refine ⟨by omega, ?_⟩
      rw [show ((i : Int) + (w.length : Int) - i).toNat = w.length by omega]
      refine loopJ (fun m env => ∃ s3 : Sl, env = [.bor (.obj "Partition" p (ldF L)), .bor (.lst [.str (Str.ofString "window"), .int i, .tup ((dist w).map .int)]), .own (.lst ((winP i w.length m).map Q.prD)), s3, .no, .sh (.int (i + w.length))]) ⟨_, rfl⟩ (fun m d env X hdd hJ hX => ?_) fun env hJ => ?_
      · obtain ⟨s3, rfl⟩ := hJ
        obtain ⟨hm, rfl⟩ := ranged_get hdd
        have hpl := winP_len i w.length m
        have hpm : m * w.length ≤ 1000 * 1000 := Nat.mul_le_mul (by omega) hw
        walk_at "q"
        refine ⟨by omega, ?_⟩
        rw [show ((i : Int) + (w.length : Int) - ((i : Int) + (m : Int) + 1)).toNat = w.length - (m + 1) by omega]
        unfold ranged
        refine comp_on _ (fun _ => true) (fun e => Q.prD (i + m, i + m + 1 + e)) (fun n e acc X h1 h2 h3 h4 _ => ?_) ?_
        · have h5 := h4 rfl
          simp only [Q.prD, Int.natCast_add, Int.cast_ofNat_Int] at h5
          rw [List.length_range] at h2
          unfold compStep
          walk_at "q"
          exact ⟨by omega, h5⟩
        · rw [List.filter_eq_self.mpr (fun _ _ => rfl)]
          walk_at "q"
          refine ⟨by rw [List.length_range]; omega, ?_⟩
          have e2 : (winP i w.length (m + 1)).map Q.prD = (winP i w.length m).map Q.prD ++ (List.range (w.length - (m + 1))).map (fun e => Q.prD (i + m, i + m + 1 + e)) := by
            conv => lhs; unfold winP rowP
            rw [List.map_append, List.map_map]
            rfl
          exact hX _ ⟨.sh (.int (i + m)), by rw [e2]⟩
      · obtain ⟨s3, rfl⟩ := hJ
        walk_at "q"
        rw [ranged_length]
        have hP := pairs_winP hf hw
        generalize winP i w.length w.length = P at hP
        refine loopJ (fun m env => ∃ s3 s4 : Sl, env = [.bor (.obj "Partition" p (ldF L)), .bor (.lst [.str (Str.ofString "window"), .int i, .tup ((dist w).map .int)]), .sh (.lst (P.map Q.prD)), s3, s4, .sh (.int (i + w.length))] ∧ ∀ ab ∈ P.take m, ¬ (L[ab.1]? = L[ab.2]? ∧ SDok ab.1 ab.2 true (.win i w))) ⟨_, _, rfl, by simp⟩ (fun m d env X hdd hJ hX => ?_) fun env hJ => ?_
        rotate_left
        · obtain ⟨s3, s4, rfl, hm⟩ := hJ
          walk_at "q"
          rw [List.length_map, List.take_length] at hm
          exact h _ (.inl ⟨rfl, fun v => by obtain ⟨ab, m1, e⟩ := hP.viol.mp v; exact hm ab m1 e⟩)
        obtain ⟨s3, s4, rfl, hm⟩ := hJ
        rw [List.getElem?_map] at hdd
        cases hab : P[m]? with
        | none => rw [hab] at hdd; cases hdd
        | some ab =>
        rw [hab] at hdd
        cases hdd
        obtain ⟨a, b⟩ := ab
        have mem := List.mem_of_getElem? hab
        obtain ⟨a1, b1, r, hr⟩ := hP.ok _ mem
        have a1 : a < L.length := a1
        have b1 : b < L.length := b1
        have hr : SDok a b r (.win i w) := hr
        have st : ¬ (L[a]? = L[b]? ∧ SDok a b true (.win i w)) → ∀ ab ∈ P.take (m + 1), ¬ (L[ab.1]? = L[ab.2]? ∧ SDok ab.1 ab.2 true (.win i w)) := fun hn ab hq => by
          rw [List.take_add_one, hab] at hq
          rcases List.mem_append.mp hq with hq | hq
          · exact hm ab hq
          · cases List.mem_singleton.mp (show ab ∈ [(a, b)] from hq)
            exact hn
        have ha : L[a]? = some L[a] := List.getElem?_eq_getElem a1
        have hb : L[b]? = some L[b] := List.getElem?_eq_getElem b1
        generalize L[a] = x1 at ha
        generalize L[b] = y1 at hb
        unfold Q.prD
        walk_at "q"
        refine ⟨ldF_no (by decide +kernel), L, p, a, b, x1, y1, rfl, ⟨by omega, by omega, ha, hb⟩, ?_⟩
        walk_at "q"
        by_cases e : x1 = y1
        · refine cIf_l (decide_eq_true e) ?_
          walk_at "q"
          cases r with
          | true =>
            refine ⟨.win i w, true, ⟨.lst .winT, hr⟩, ?_⟩
            walk_at "q"
            exact h _ (.inr ⟨⟨a, b, rfl⟩, hP.viol.mpr ⟨_, mem, by show L[a]? = L[b]?; rw [ha, hb, e], hr⟩⟩)
          | false =>
            refine ⟨.win i w, false, ⟨.lst .winT, hr⟩, ?_⟩
            walk_at "q"
            exact hX _ ⟨_, _, rfl, st fun z => by cases sdok_uniq hr z.2⟩
        · refine cIf_r (decide_eq_false e) ?_
          walk_at "q"
          exact hX _ ⟨_, _, rfl, st fun z => e (Option.some.inj ((ha.symm.trans z.1).trans hb))⟩
    · rename_i i j
      walk_at "q"
      refine cIf_r (by decide +kernel) ?_
      walk_at "q"
      refine cIf_r (by decide +kernel) ?_
      walk_at "q"
      exact h _ (.inl ⟨rfl, id⟩)
    · rename_i i j
      obtain ⟨i1, i2, i3⟩ := hf
      walk_at "q"
      have ha : L[i]? = some L[i] := List.getElem?_eq_getElem i1
      have hb : L[j]? = some L[j] := List.getElem?_eq_getElem i2
      generalize L[i] = a at ha
      generalize L[j] = b at hb
      refine ⟨ldF_no (by decide +kernel), L, p, i, j, a, b, rfl, ⟨by omega, by omega, ha, hb⟩, ?_⟩
      walk_at "q"
      by_cases e : a = b
      · refine cIf_l (decide_eq_true e) ?_
        walk_at "q"
        refine ⟨.diff i j, true, ⟨.tup .diff, rfl, rfl, rfl⟩, ?_⟩
        walk_at "q"
        exact h _ (.inr ⟨⟨i, j, rfl⟩, by show L[i]? = L[j]?; rw [ha, hb, e]⟩)
      · refine cIf_r (decide_eq_false e) ?_
        walk_at "q"
        exact h _ (.inl ⟨rfl, fun v => e (Option.some.inj ((ha.symm.trans v).trans hb))⟩)
    · rename_i i j l
      walk_at "q"
      refine cIf_r (by decide +kernel) ?_
      walk_at "q"
      refine cIf_r (by decide +kernel) ?_
      walk_at "q"
      exact h _ (.inl ⟨rfl, id⟩)
    · rename_i i w
      have hi := hf.2
      have hw : w.length ≤ 1000 := by omega
      have hdl : (dist w).length = w.length := dist_length w
      walk_at "q"
      refine cIf_r (by decide +kernel) ?_
      walk_at "q"
      rw [hdl]
      refine ⟨by omega, ?_⟩
      rw [show ((i : Int) + (w.length : Int) - i).toNat = w.length by omega]
      refine loopJ (fun m env => ∃ s3 : Sl, env = [.bor (.obj "Partition" p (ldF L)), .bor (.tup [.str (Str.ofString "window"), .int i, .lst ((dist w).map .int)]), .own (.lst ((winP i w.length m).map Q.prD)), s3, .no, .sh (.int (i + w.length))]) ⟨_, rfl⟩ (fun m d env X hdd hJ hX => ?_) fun env hJ => ?_
      · obtain ⟨s3, rfl⟩ := hJ
        obtain ⟨hm, rfl⟩ := ranged_get hdd
        have hpl := winP_len i w.length m
        have hpm : m * w.length ≤ 1000 * 1000 := Nat.mul_le_mul (by omega) hw
        walk_at "q"
        refine ⟨by omega, ?_⟩
        rw [show ((i : Int) + (w.length : Int) - ((i : Int) + (m : Int) + 1)).toNat = w.length - (m + 1) by omega]
        unfold ranged
        refine comp_on _ (fun _ => true) (fun e => Q.prD (i + m, i + m + 1 + e)) (fun n e acc X h1 h2 h3 h4 _ => ?_) ?_
        · have h5 := h4 rfl
          simp only [Q.prD, Int.natCast_add, Int.cast_ofNat_Int] at h5
          rw [List.length_range] at h2
          unfold compStep
          walk_at "q"
          exact ⟨by omega, h5⟩
        · rw [List.filter_eq_self.mpr (fun _ _ => rfl)]
          walk_at "q"
          refine ⟨by rw [List.length_range]; omega, ?_⟩
          have e2 : (winP i w.length (m + 1)).map Q.prD = (winP i w.length m).map Q.prD ++ (List.range (w.length - (m + 1))).map (fun e => Q.prD (i + m, i + m + 1 + e)) := by
            conv => lhs; unfold winP rowP
            rw [List.map_append, List.map_map]
            rfl
          exact hX _ ⟨.sh (.int (i + m)), by rw [e2]⟩
      · obtain ⟨s3, rfl⟩ := hJ
        walk_at "q"
        rw [ranged_length]
        have hP := pairs_winP hf hw
        generalize winP i w.length w.length = P at hP
        refine loopJ (fun m env => ∃ s3 s4 : Sl, env = [.bor (.obj "Partition" p (ldF L)), .bor (.tup [.str (Str.ofString "window"), .int i, .lst ((dist w).map .int)]), .sh (.lst (P.map Q.prD)), s3, s4, .sh (.int (i + w.length))] ∧ ∀ ab ∈ P.take m, ¬ (L[ab.1]? = L[ab.2]? ∧ SDok ab.1 ab.2 true (.win i w))) ⟨_, _, rfl, by simp⟩ (fun m d env X hdd hJ hX => ?_) fun env hJ => ?_
        rotate_left
        · obtain ⟨s3, s4, rfl, hm⟩ := hJ
          walk_at "q"
          rw [List.length_map, List.take_length] at hm
          exact h _ (.inl ⟨rfl, fun v => by obtain ⟨ab, m1, e⟩ := hP.viol.mp v; exact hm ab m1 e⟩)
        obtain ⟨s3, s4, rfl, hm⟩ := hJ
        rw [List.getElem?_map] at hdd
        cases hab : P[m]? with
        | none => rw [hab] at hdd; cases hdd
        | some ab =>
        rw [hab] at hdd
        cases hdd
        obtain ⟨a, b⟩ := ab
        have mem := List.mem_of_getElem? hab
        obtain ⟨a1, b1, r, hr⟩ := hP.ok _ mem
        have a1 : a < L.length := a1
        have b1 : b < L.length := b1
        have hr : SDok a b r (.win i w) := hr
        have st : ¬ (L[a]? = L[b]? ∧ SDok a b true (.win i w)) → ∀ ab ∈ P.take (m + 1), ¬ (L[ab.1]? = L[ab.2]? ∧ SDok ab.1 ab.2 true (.win i w)) := fun hn ab hq => by
          rw [List.take_add_one, hab] at hq
          rcases List.mem_append.mp hq with hq | hq
          · exact hm ab hq
          · cases List.mem_singleton.mp (show ab ∈ [(a, b)] from hq)
            exact hn
        have ha : L[a]? = some L[a] := List.getElem?_eq_getElem a1
        have hb : L[b]? = some L[b] := List.getElem?_eq_getElem b1
        generalize L[a] = x1 at ha
        generalize L[b] = y1 at hb
        unfold Q.prD
        walk_at "q"
        refine ⟨ldF_no (by decide +kernel), L, p, a, b, x1, y1, rfl, ⟨by omega, by omega, ha, hb⟩, ?_⟩
        walk_at "q"
        by_cases e : x1 = y1
        · refine cIf_l (decide_eq_true e) ?_
          walk_at "q"
          cases r with
          | true =>
            refine ⟨.win i w, true, ⟨.tup .winL, hr⟩, ?_⟩
            walk_at "q"
            exact h _ (.inr ⟨⟨a, b, rfl⟩, hP.viol.mpr ⟨_, mem, by show L[a]? = L[b]?; rw [ha, hb, e], hr⟩⟩)
          | false =>
            refine ⟨.win i w, false, ⟨.tup .winL, hr⟩, ?_⟩
            walk_at "q"
            exact hX _ ⟨_, _, rfl, st fun z => by cases sdok_uniq hr z.2⟩
        · refine cIf_r (decide_eq_false e) ?_
          walk_at "q"
          exact hX _ ⟨_, _, rfl, st fun z => e (Option.some.inj ((ha.symm.trans z.1).trans hb))⟩
    · rename_i i w
      have hi := hf.2
      have hw : w.length ≤ 1000 := by omega
      have hdl : (dist w).length = w.length := dist_length w
      walk_at "q"
      refine cIf_r (by decide +kernel) ?_
      walk_at "q"
      rw [hdl]
      refine ⟨by omega, ?_⟩
      rw [show ((i : Int) + (w.length : Int) - i).toNat = w.length by omega]
      refine loopJ (fun m env => ∃ s3 : Sl, env = [.bor (.obj "Partition" p (ldF L)), .bor (.tup [.str (Str.ofString "window"), .int i, .tup ((dist w).map .int)]), .own (.lst ((winP i w.length m).map Q.prD)), s3, .no, .sh (.int (i + w.length))]) ⟨_, rfl⟩ (fun m d env X hdd hJ hX => ?_) fun env hJ => ?_
      · obtain ⟨s3, rfl⟩ := hJ
        obtain ⟨hm, rfl⟩ := ranged_get hdd
        have hpl := winP_len i w.length m
        have hpm : m * w.length ≤ 1000 * 1000 := Nat.mul_le_mul (by omega) hw
        walk_at "q"
        refine ⟨by omega, ?_⟩
        rw [show ((i : Int) + (w.length : Int) - ((i : Int) + (m : Int) + 1)).toNat = w.length - (m + 1) by omega]
        unfold ranged
        refine comp_on _ (fun _ => true) (fun e => Q.prD (i + m, i + m + 1 + e)) (fun n e acc X h1 h2 h3 h4 _ => ?_) ?_
        · have h5 := h4 rfl
          simp only [Q.prD, Int.natCast_add, Int.cast_ofNat_Int] at h5
          rw [List.length_range] at h2
          unfold compStep
          walk_at "q"
          exact ⟨by omega, h5⟩
        · rw [List.filter_eq_self.mpr (fun _ _ => rfl)]
          walk_at "q"
          refine ⟨by rw [List.length_range]; omega, ?_⟩
          have e2 : (winP i w.length (m + 1)).map Q.prD = (winP i w.length m).map Q.prD ++ (List.range (w.length - (m + 1))).map (fun e => Q.prD (i + m, i + m + 1 + e)) := by
            conv => lhs; unfold winP rowP
            rw [List.map_append, List.map_map]
            rfl
          exact hX _ ⟨.sh (.int (i + m)), by rw [e2]⟩
      · obtain ⟨s3, rfl⟩ := hJ
        walk_at "q"
        rw [ranged_length]
        have hP := pairs_winP hf hw
        generalize winP i w.length w.length = P at hP
        refine loopJ (fun m env => ∃ s3 s4 : Sl, env = [.bor (.obj "Partition" p (ldF L)), .bor (.tup [.str (Str.ofString "window"), .int i, .tup ((dist w).map .int)]), .sh (.lst (P.map Q.prD)), s3, s4, .sh (.int (i + w.length))] ∧ ∀ ab ∈ P.take m, ¬ (L[ab.1]? = L[ab.2]? ∧ SDok ab.1 ab.2 true (.win i w))) ⟨_, _, rfl, by simp⟩ (fun m d env X hdd hJ hX => ?_) fun env hJ => ?_
        rotate_left
        · obtain ⟨s3, s4, rfl, hm⟩ := hJ
          walk_at "q"
          rw [List.length_map, List.take_length] at hm
          exact h _ (.inl ⟨rfl, fun v => by obtain ⟨ab, m1, e⟩ := hP.viol.mp v; exact hm ab m1 e⟩)
        obtain ⟨s3, s4, rfl, hm⟩ := hJ
        rw [List.getElem?_map] at hdd
        cases hab : P[m]? with
        | none => rw [hab] at hdd; cases hdd
        | some ab =>
        rw [hab] at hdd
        cases hdd
        obtain ⟨a, b⟩ := ab
        have mem := List.mem_of_getElem? hab
        obtain ⟨a1, b1, r, hr⟩ := hP.ok _ mem
        have a1 : a < L.length := a1
        have b1 : b < L.length := b1
        have hr : SDok a b r (.win i w) := hr
        have st : ¬ (L[a]? = L[b]? ∧ SDok a b true (.win i w)) → ∀ ab ∈ P.take (m + 1), ¬ (L[ab.1]? = L[ab.2]? ∧ SDok ab.1 ab.2 true (.win i w)) := fun hn ab hq => by
          rw [List.take_add_one, hab] at hq
          rcases List.mem_append.mp hq with hq | hq
          · exact hm ab hq
          · cases List.mem_singleton.mp (show ab ∈ [(a, b)] from hq)
            exact hn
        have ha : L[a]? = some L[a] := List.getElem?_eq_getElem a1
        have hb : L[b]? = some L[b] := List.getElem?_eq_getElem b1
        generalize L[a] = x1 at ha
        generalize L[b] = y1 at hb
        unfold Q.prD
        walk_at "q"
        refine ⟨ldF_no (by decide +kernel), L, p, a, b, x1, y1, rfl, ⟨by omega, by omega, ha, hb⟩, ?_⟩
        walk_at "q"
        by_cases e : x1 = y1
        · refine cIf_l (decide_eq_true e) ?_
          walk_at "q"
          cases r with
          | true =>
            refine ⟨.win i w, true, ⟨.tup .winT, hr⟩, ?_⟩
            walk_at "q"
            exact h _ (.inr ⟨⟨a, b, rfl⟩, hP.viol.mpr ⟨_, mem, by show L[a]? = L[b]?; rw [ha, hb, e], hr⟩⟩)
          | false =>
            refine ⟨.win i w, false, ⟨.tup .winT, hr⟩, ?_⟩
            walk_at "q"
            exact hX _ ⟨_, _, rfl, st fun z => by cases sdok_uniq hr z.2⟩
        · refine cIf_r (decide_eq_false e) ?_
          walk_at "q"
          exact hX _ ⟨_, _, rfl, st fun z => e (Option.some.inj ((ha.symm.trans z.1).trans hb))⟩
theorem cal_violated_pair (T : Tx K mg) : Cal P w K mg base g 4 "violated_pair" [] sp_violated_pair := by
  obtain ⟨fd, G, Fn⟩ := fn_violated_pair (P := P) (w := w) (base := base) (g := g) T
  exact ⟨_, fd, _, [], G, T.g_violated_pair, Fn.kp, Fn.bindsN fun _ _ _ _ _ _ us hl => match us, hl with | [_, _], _ => rfl, .nil, rfl⟩
end

/-! ### consistent_partition -/
def sp_consistent_partition : Spq := fun as k _ => ∃ (n : Nat) (fc : List Fc) (ds : List D), as = [.bor (.int n), .bor (.lst ds)] ∧ (FcsAt fc ds ∧ (∀ f ∈ fc, FcOk n f) ∧ n ≤ 100 ∧ ds.length ≤ 100) ∧ ∀ (L : List Int) (p : Addr), Closed n fc L → ((∃ f ∈ fc, Viol L f) → k (.sh .non)) ∧ ((∀ f ∈ fc, ¬ Viol L f) → k (.own (.obj "Partition" p (ldF L))))
section
variable {P : Program} {w : World} {K : Fg} {mg : Str → Option Value} {base : Heap} {g : Gd}
theorem sc_consistent_partition : FnScope ["size", "facts", "partition", "fact"] ["size", "facts"] (defScope s_consistent_partition) := ⟨rfl, rfl, rfl, by decide +kernel, rfl, by decide +kernel, by decide +kernel⟩
theorem fn_consistent_partition (T : Tx K mg) : ∃ fd, FnG P w K mg base 6 (He.ga K "consistent_partition") fd ["size", "facts"] (spQ K mg g sp_consistent_partition) ∧ FunD K "consistent_partition" "consistent_partition" (defArgs s_consistent_partition) (defBody s_consistent_partition) (defScope s_consistent_partition) [] [] (He.ga K "consistent_partition") fd := by
  have sc := sc_consistent_partition
  have C_Partition___init__ : ICal P w K mg base g 4 "Partition" [] sp_Partition___init__ := cal_Partition___init__ T
  have C_violated_pair : Cal P w K mg base g 4 "violated_pair" [] sp_violated_pair := cal_violated_pair T
  obtain ⟨fd, Fn⟩ := T.f_consistent_partition
  refine ⟨fd, fn_q g Fn sc (by decide) (fun as k x h => ?_) fun cdv A outer s H E hgd hr => ?_, Fn⟩
  · unfold sp_consistent_partition at h; first | (split at h <;> first | rfl | exact h.elim) | (obtain ⟨_, rfl, _⟩ := h; rfl) | (obtain ⟨_, _, rfl, _⟩ := h; rfl) | (obtain ⟨_, _, _, rfl, _⟩ := h; rfl) | (obtain ⟨_, _, _, _, rfl, _⟩ := h; rfl) | (obtain ⟨_, _, _, _, _, rfl, _⟩ := h; rfl) | (obtain ⟨_, _, _, _, _, _, rfl, _⟩ := h; rfl)
  · have tk : Takes (cxOf (L2.CX P w) P w K mg base ["size", "facts", "partition", "fact"] "consistent_partition" (defScope s_consistent_partition) (He.ga K "consistent_partition") cdv A outer s H E) (fun cls d _ H => E cls d H) := takes_of rfl rfl rfl rfl
    refine ⟨_, _, (qs_cons (qs_setN (i := 2) (by exact sc.nd) (by exact rfl) (Or.inr rfl) (qn_make [.bor, .bor] C_Partition___init__ (by exact hgd) (by exact hr) (by omega) (by exact rfl) (qa_cons (q_var 0) (qa_cons (q_var 1) qa_nil (by rfl)) (by rfl)) (by decide) (by rfl) (by rfl)) (by rfl) (by first | exact .inl rfl | exact .inr rfl | assumption))
      (qs_cons (qs_if (qt_val (q_callB (cr_any (by exact rfl)) c_any (by exact rfl) T.z_any (by decide +kernel) (qa_cons (QN.qe (qn_lcB [("fact", 3)] (by exact rfl) (by exact sc.nd) (qi_seq (q_var 1)) (blkOk_by (by kernel_rfl)) (fun _ _ _ _ _ => (qg_name (i := 3) (by exact sc.nd) (by exact rfl) (by first | exact Or.inl rfl | exact Or.inr rfl) (by decide) (by first | exact .inl rfl | exact .inr rfl | assumption))) (fun _ _ _ _ _ => qts_nil) (fun _ _ _ _ _ => (q_cmp op_notN o_isNot (QN.qe (qn_call [.bor, .bor] C_violated_pair (by exact hgd) (by exact hr) (by omega) (by exact rfl) (qa_cons (q_var 2) (qa_cons (q_var 3) qa_nil (by rfl)) (by rfl)) (by decide) (by rfl) (by rfl))) q_non (by first | exact nomark _ | rfl))) (by intro _; rfl) (by intros; rfl) (by intros; rfl) (by intros; rfl))) qa_nil (by rfl)) (by decide) (by decide) (by rfl) (by rfl)) (by intro _; rfl)) (qs_one (qs_ret q_non)) qs_nil)
      (qs_one (qs_ret (q_var 2))))), fun as k x h => ?_⟩
    clear tk hr hgd Fn sc T
    obtain ⟨n, fc, ds, rfl, ⟨hd, hf, hn, hc⟩, h⟩ := h
    walk_at "q"
    refine fun p => ⟨n, fc, ds, .lst ds, rfl, rfl, ⟨.inl rfl, hd, hf, hn, hc⟩, fun L hL => ?_⟩
    have hh := h L p hL
    walk_at "q"
    refine comp_rule (fun _ : Unit => _) (fun m _ acc => ∃ bs : List Bool, acc = bs.map .bl ∧ bs.length = m ∧ ((∃ b ∈ bs, b = true) ↔ ∃ f ∈ fc.take m, Viol L f)) () ⟨[], rfl, rfl, by simp⟩ (fun m d _ acc X hdd hI hX => ?_) fun _ acc hI => ?_
    · obtain ⟨bs, rfl, hb, hI⟩ := hI
      obtain ⟨f, e1, e2⟩ := hd.at hdd
      have ext : ∀ c : Bool, (c = true ↔ Viol L f) → ((∃ b ∈ bs ++ [c], b = true) ↔ ∃ g ∈ fc.take (m + 1), Viol L g) := fun c hc => by
        rw [List.take_add_one, e1]
        simp only [List.mem_append, List.mem_singleton, Option.toList_some, or_and_right, exists_or, exists_eq_left, hI, hc]
      have hml : m < ds.length := (List.getElem?_eq_some_iff.mp hdd).1
      unfold compStep
      walk_at "q"
      refine ⟨L, p, f, d, rfl, ⟨e2, by rw [hL.len]; exact hf f (List.mem_of_getElem? e1), by rw [hL.len]; omega⟩, fun r hr => ?_⟩
      rcases hr with ⟨rfl, hv⟩ | ⟨⟨i, j, rfl⟩, hv⟩
      · walk_at "q"
        exact ⟨by omega, hX () _ ⟨bs ++ [false], by rw [List.map_append]; rfl, by rw [List.length_append, hb]; rfl, ext false ⟨fun z => (by cases z), fun z => (hv z).elim⟩⟩⟩
      · walk_at "q"
        exact ⟨by omega, hX () _ ⟨bs ++ [true], by rw [List.map_append]; rfl, by rw [List.length_append, hb]; rfl, ext true ⟨fun _ => hv, fun _ => rfl⟩⟩⟩
    · obtain ⟨bs, rfl, hb, hI⟩ := hI
      rw [← hd.length, List.take_length] at hI
      rw [show bs.map D.bl = bs.map (fun d => D.bl ((fun b => b) d)) from rfl]
      walk_at "q"
      by_cases e : ∃ b ∈ bs, b = true
      · refine cIf_l (by rw [List.any_eq_true]; exact e) ?_
        walk_at "q"
        exact hh.1 (hI.mp e)
      · refine cIf_r (by rw [← Bool.not_eq_true, List.any_eq_true]; exact e) ?_
        walk_at "q"
        exact hh.2 fun f hf hv => e (hI.mpr ⟨f, hf, hv⟩)
theorem cal_consistent_partition (T : Tx K mg) : Cal P w K mg base g 6 "consistent_partition" [] sp_consistent_partition := by
  obtain ⟨fd, G, Fn⟩ := fn_consistent_partition (P := P) (w := w) (base := base) (g := g) T
  exact ⟨_, fd, _, [], G, T.g_consistent_partition, Fn.kp, Fn.bindsN fun _ _ _ _ _ _ us hl => match us, hl with | [_, _], _ => rfl, .nil, rfl⟩
end

/-! ### is_consistent -/
def sp_is_consistent : Spq := fun as k x => ∃ (n : Nat) (fc : List Fc) (ds : List D) (d : D), as = [.bor (.int n), .bor d] ∧ ((d = .lst ds ∨ d = .tup ds) ∧ FcsAt fc ds ∧ (∀ f ∈ fc, FcOk n f) ∧ 1 ≤ n ∧ n ≤ 60 ∧ ds.length ≤ 40) ∧ ∀ r : Bool, (r = true ↔ ∃ u, Fit n fc u) → k (.sh (.bl r))
section
variable {P : Program} {w : World} {K : Fg} {mg : Str → Option Value} {base : Heap} {g : Gd}
theorem sc_is_consistent : FnScope ["size", "facts"] ["size", "facts"] (defScope s_is_consistent) := ⟨rfl, rfl, rfl, by decide +kernel, rfl, by decide +kernel, by decide +kernel⟩
theorem fn_is_consistent (T : Tx K mg) : ∃ fd, FnG P w K mg base 7 (He.ga K "is_consistent") fd ["size", "facts"] (spQ K mg g sp_is_consistent) ∧ FunD K "is_consistent" "is_consistent" (defArgs s_is_consistent) (defBody s_is_consistent) (defScope s_is_consistent) [] [] (He.ga K "is_consistent") fd := by
  have sc := sc_is_consistent
  have C_checked_facts : Cal P w K mg base g 4 "checked_facts" [] sp_checked_facts := cal_checked_facts T
  have C_consistent_partition : Cal P w K mg base g 6 "consistent_partition" [] sp_consistent_partition := cal_consistent_partition T
  obtain ⟨fd, Fn⟩ := T.f_is_consistent
  refine ⟨fd, fn_q g Fn sc (by decide) (fun as k x h => ?_) fun cdv A outer s H E hgd hr => ?_, Fn⟩
  · unfold sp_is_consistent at h; first | (split at h <;> first | rfl | exact h.elim) | (obtain ⟨_, rfl, _⟩ := h; rfl) | (obtain ⟨_, _, rfl, _⟩ := h; rfl) | (obtain ⟨_, _, _, rfl, _⟩ := h; rfl) | (obtain ⟨_, _, _, _, rfl, _⟩ := h; rfl) | (obtain ⟨_, _, _, _, _, rfl, _⟩ := h; rfl) | (obtain ⟨_, _, _, _, _, _, rfl, _⟩ := h; rfl)
  · have tk : Takes (cxOf (L2.CX P w) P w K mg base ["size", "facts"] "is_consistent" (defScope s_is_consistent) (He.ga K "is_consistent") cdv A outer s H E) (fun cls d _ H => E cls d H) := takes_of rfl rfl rfl rfl
    refine ⟨_, _, (qs_one (qs_ret (q_cmp op_notN o_isNot (QN.qe (qn_call [.bor, .bor] C_consistent_partition (by exact hgd) (by exact hr) (by omega) (by exact rfl) (qa_cons (q_var 0) (qa_cons (QN.qe (qn_call [.bor, .bor] C_checked_facts (by exact hgd) (by exact hr) (by omega) (by exact rfl) (qa_cons (q_var 0) (qa_cons (q_var 1) qa_nil (by rfl)) (by rfl)) (by decide) (by rfl) (by rfl))) qa_nil (by rfl)) (by rfl)) (by decide) (by rfl) (by rfl))) q_non (by first | exact nomark _ | rfl)))), fun as k x h => ?_⟩
    clear tk hr hgd Fn sc T
    obtain ⟨n, fc, ds, d, rfl, ⟨hd, hfc, hok, n1, n2, hl⟩, h⟩ := h
    walk_at "q"
    refine ⟨n, fc, ds, d, rfl, ⟨hd, hfc, hok, n1, n2, hl⟩, ?_⟩
    walk_at "q"
    refine ⟨n, fc, ds, rfl, ⟨hfc, hok, by omega, by omega⟩, fun L p hL => ⟨fun hv => ?_, fun hv => ?_⟩⟩
    · walk_at "q"
      exact h false ⟨fun z => (by cases z), fun ⟨u, hu⟩ => (by obtain ⟨f, hf, v⟩ := hv; exact absurd v (hL.no hok hu f hf))⟩
    walk_at "q"
    exact h true ⟨fun _ => ⟨L, hL.fits hv⟩, fun _ => rfl⟩
theorem cal_is_consistent (T : Tx K mg) : Cal P w K mg base g 7 "is_consistent" [] sp_is_consistent := by
  obtain ⟨fd, G, Fn⟩ := fn_is_consistent (P := P) (w := w) (base := base) (g := g) T
  exact ⟨_, fd, _, [], G, T.g_is_consistent, Fn.kp, Fn.bindsN fun _ _ _ _ _ _ us hl => match us, hl with | [_, _], _ => rfl, .nil, rfl⟩
end

/-! ### finest_list -/
def sp_finest_list : Spq := fun as k x => ∃ (n : Nat) (fc : List Fc) (ds : List D) (d : D), as = [.bor (.int n), .bor d] ∧ ((d = .lst ds ∨ d = .tup ds) ∧ FcsAt fc ds ∧ (∀ f ∈ fc, FcOk n f) ∧ 1 ≤ n ∧ n ≤ 60 ∧ ds.length ≤ 40) ∧ ((∀ u, ¬ Fit n fc u) → k (.sh .non)) ∧ ∀ L : List Int, Closed n fc L → Fit n fc L → k (.own (.lst ((dist L).map .int)))
section
variable {P : Program} {w : World} {K : Fg} {mg : Str → Option Value} {base : Heap} {g : Gd}
theorem sc_finest_list : FnScope ["size", "facts", "partition"] ["size", "facts"] (defScope s_finest_list) := ⟨rfl, rfl, rfl, by decide +kernel, rfl, by decide +kernel, by decide +kernel⟩
theorem fn_finest_list (T : Tx K mg) : ∃ fd, FnG P w K mg base 7 (He.ga K "finest_list") fd ["size", "facts"] (spQ K mg g sp_finest_list) ∧ FunD K "finest_list" "finest_list" (defArgs s_finest_list) (defBody s_finest_list) (defScope s_finest_list) [] [] (He.ga K "finest_list") fd := by
  have sc := sc_finest_list
  have C_Partition_distances : RCal P w K mg base g 2 "Partition" "distances" [] sp_Partition_distances := cal_Partition_distances T
  have C_checked_facts : Cal P w K mg base g 4 "checked_facts" [] sp_checked_facts := cal_checked_facts T
  have C_consistent_partition : Cal P w K mg base g 6 "consistent_partition" [] sp_consistent_partition := cal_consistent_partition T
  obtain ⟨fd, Fn⟩ := T.f_finest_list
  refine ⟨fd, fn_q g Fn sc (by decide) (fun as k x h => ?_) fun cdv A outer s H E hgd hr => ?_, Fn⟩
  · unfold sp_finest_list at h; first | (split at h <;> first | rfl | exact h.elim) | (obtain ⟨_, rfl, _⟩ := h; rfl) | (obtain ⟨_, _, rfl, _⟩ := h; rfl) | (obtain ⟨_, _, _, rfl, _⟩ := h; rfl) | (obtain ⟨_, _, _, _, rfl, _⟩ := h; rfl) | (obtain ⟨_, _, _, _, _, rfl, _⟩ := h; rfl) | (obtain ⟨_, _, _, _, _, _, rfl, _⟩ := h; rfl)
  · have tk : Takes (cxOf (L2.CX P w) P w K mg base ["size", "facts", "partition"] "finest_list" (defScope s_finest_list) (He.ga K "finest_list") cdv A outer s H E) (fun cls d _ H => E cls d H) := takes_of rfl rfl rfl rfl
    refine ⟨_, _, (qs_cons (qs_setN (i := 2) (by exact sc.nd) (by exact rfl) (Or.inl rfl) (qn_call [.bor, .bor] C_consistent_partition (by exact hgd) (by exact hr) (by omega) (by exact rfl) (qa_cons (q_var 0) (qa_cons (QN.qe (qn_call [.bor, .bor] C_checked_facts (by exact hgd) (by exact hr) (by omega) (by exact rfl) (qa_cons (q_var 0) (qa_cons (q_var 1) qa_nil (by rfl)) (by rfl)) (by decide) (by rfl) (by rfl))) qa_nil (by rfl)) (by rfl)) (by decide) (by rfl) (by rfl)) (by rfl) (by first | exact .inl rfl | exact .inr rfl | assumption))
      (qs_one (qs_retN (qn_ifExp (qt_cmp op_isN o_is (q_var 2) q_non (by first | exact nomark _ | rfl)) (QE.toN q_non) (qn_callR0 T.o_Partition C_Partition_distances (by exact hgd) (by exact hr) (by omega) (q_var 2) (by rfl)))))), fun as k x h => ?_⟩
    clear tk hr hgd Fn sc T
    obtain ⟨n, fc, ds, d, rfl, ⟨hd, hfc, hok, n1, n2, hl⟩, hn, h⟩ := h
    walk_at "q"
    refine ⟨n, fc, ds, d, rfl, ⟨hd, hfc, hok, n1, n2, hl⟩, ?_⟩
    walk_at "q"
    refine ⟨n, fc, ds, rfl, ⟨hfc, hok, by omega, by omega⟩, fun L p hL => ⟨fun hv => ?_, fun hv => ?_⟩⟩
    · walk_at "q"
      exact hn fun u hu => (by obtain ⟨f, hf, v⟩ := hv; exact absurd v (hL.no hok hu f hf))
    have hh := h L hL (hL.fits hv)
    have hLl := hL.len
    walk_at "q"
    refine cIf_r rfl ?_
    walk_at "q"
    exact ⟨ldF_no (by decide +kernel), L, p, rfl, by omega, hh⟩
theorem cal_finest_list (T : Tx K mg) : Cal P w K mg base g 7 "finest_list" [] sp_finest_list := by
  obtain ⟨fd, G, Fn⟩ := fn_finest_list (P := P) (w := w) (base := base) (g := g) T
  exact ⟨_, fd, _, [], G, T.g_finest_list, Fn.kp, Fn.bindsN fun _ _ _ _ _ _ us hl => match us, hl with | [_, _], _ => rfl, .nil, rfl⟩
end

/-! ### relation -/
def sp_relation : Spq := fun as k x => ∃ (n : Nat) (fc : List Fc) (ds : List D) (d : D) (i j : Nat), as = [.bor (.int n), .bor d, .bor (.int i), .bor (.int j)] ∧ ((d = .lst ds ∨ d = .tup ds) ∧ FcsAt fc ds ∧ (∀ f ∈ fc, FcOk n f) ∧ 1 ≤ n ∧ n ≤ 60 ∧ ds.length ≤ 40 ∧ i < n ∧ j < n) ∧ ((∀ u, ¬ Fit n fc u) → x "Inconsistent" []) ∧ ∀ s : String, Rel2 n fc i j s → k (.sh (.str (Str.ofString s)))
section
variable {P : Program} {w : World} {K : Fg} {mg : Str → Option Value} {base : Heap} {g : Gd}
theorem sc_relation : FnScope ["size", "facts", "one", "other", "known", "partition"] ["size", "facts", "one", "other"] (defScope s_relation) := ⟨rfl, rfl, rfl, by decide +kernel, rfl, by decide +kernel, by decide +kernel⟩
theorem fn_relation (T : Tx K mg) : ∃ fd, FnG P w K mg base 7 (He.ga K "relation") fd ["size", "facts", "one", "other"] (spQ K mg g sp_relation) ∧ FunD K "relation" "relation" (defArgs s_relation) (defBody s_relation) (defScope s_relation) [] [] (He.ga K "relation") fd := by
  have sc := sc_relation
  have C_Partition_are_equal : RCal P w K mg base g 1 "Partition" "are_equal" [] sp_Partition_are_equal := cal_Partition_are_equal T
  have C_check_positions : Cal P w K mg base g 2 "check_positions" [] sp_check_positions := cal_check_positions T
  have C_checked_facts : Cal P w K mg base g 4 "checked_facts" [] sp_checked_facts := cal_checked_facts T
  have C_consistent_partition : Cal P w K mg base g 6 "consistent_partition" [] sp_consistent_partition := cal_consistent_partition T
  obtain ⟨t_DIFFERENT, h_DIFFERENT⟩ := T.c_DIFFERENT
  obtain ⟨t_SAME, h_SAME⟩ := T.c_SAME
  obtain ⟨t_UNKNOWN, h_UNKNOWN⟩ := T.c_UNKNOWN
  obtain ⟨fd, Fn⟩ := T.f_relation
  refine ⟨fd, fn_q g Fn sc (by decide) (fun as k x h => ?_) fun cdv A outer s H E hgd hr => ?_, Fn⟩
  · unfold sp_relation at h; first | (split at h <;> first | rfl | exact h.elim) | (obtain ⟨_, rfl, _⟩ := h; rfl) | (obtain ⟨_, _, rfl, _⟩ := h; rfl) | (obtain ⟨_, _, _, rfl, _⟩ := h; rfl) | (obtain ⟨_, _, _, _, rfl, _⟩ := h; rfl) | (obtain ⟨_, _, _, _, _, rfl, _⟩ := h; rfl) | (obtain ⟨_, _, _, _, _, _, rfl, _⟩ := h; rfl)
  · have tk : Takes (cxOf (L2.CX P w) P w K mg base ["size", "facts", "one", "other", "known", "partition"] "relation" (defScope s_relation) (He.ga K "relation") cdv A outer s H E) (fun cls d _ H => E cls d H) := takes_of rfl rfl rfl rfl
    refine ⟨_, _, (qs_cons (qs_setN (i := 4) (by exact sc.nd) (by exact rfl) (Or.inl rfl) (qn_call [.bor, .bor] C_checked_facts (by exact hgd) (by exact hr) (by omega) (by exact rfl) (qa_cons (q_var 0) (qa_cons (q_var 1) qa_nil (by rfl)) (by rfl)) (by decide) (by rfl) (by rfl)) (by rfl) (by first | exact .inl rfl | exact .inr rfl | assumption))
      (qs_cons (qs_expr (QN.qe (qn_call [.bor, .bor, .bor] C_check_positions (by exact hgd) (by exact hr) (by omega) (by exact rfl) (qa_cons (q_var 0) (qa_cons (q_var 2) (qa_cons (q_var 3) qa_nil (by rfl)) (by rfl)) (by rfl)) (by decide) (by rfl) (by rfl))) (by rfl))
      (qs_cons (qs_setN (i := 5) (by exact sc.nd) (by exact rfl) (Or.inl rfl) (qn_call [.bor, .bor] C_consistent_partition (by exact hgd) (by exact hr) (by omega) (by exact rfl) (qa_cons (q_var 0) (qa_cons (q_var 4) qa_nil (by rfl)) (by rfl)) (by decide) (by rfl) (by rfl)) (by rfl) (by first | exact .inl rfl | exact .inr rfl | assumption))
      (qs_cons (qs_if (qt_cmp op_isN o_is (q_var 5) q_non (by first | exact nomark _ | rfl)) (qs_one (qs_raise T.e_Inconsistent tk (by exact rfl) (by rfl) (by decide))) qs_nil)
      (qs_cons (qs_if (qt_val (QN.qe (qn_callR [.bor, .bor] T.o_Partition C_Partition_are_equal (by exact hgd) (by exact hr) (by omega) (q_var 5) (qa_cons (q_var 2) (qa_cons (q_var 3) qa_nil (by rfl)) (by rfl)) (by rfl) (by rfl) (by rfl))) (by intro _; rfl)) (qs_one (qs_ret (q_glob (v := V.str (Str.ofString "same")) (d := D.str (Str.ofString "same")) (by exact rfl) h_SAME ⟨_, rfl⟩ (by exact rfl) (by decide)))) qs_nil)
      (qs_one (qs_ret (q_ifExp (qt_cmp op_isN o_is (QN.qe (qn_call [.bor, .bor] C_consistent_partition (by exact hgd) (by exact hr) (by omega) (by exact rfl) (qa_cons (q_var 0) (qa_cons (QN.qe (qn_opR or_addQ o_add (q_var 4) (QN.qe (qn_lst (qa_cons (q_tup (qa_cons (q_glob (v := V.str (Str.ofString "same")) (d := D.str (Str.ofString "same")) (by exact rfl) h_SAME ⟨_, rfl⟩ (by exact rfl) (by decide)) (qa_cons (q_var 2) (qa_cons (q_var 3) qa_nil (by rfl)) (by rfl)) (by rfl))) qa_nil (by rfl)))))) qa_nil (by rfl)) (by rfl)) (by decide) (by rfl) (by rfl))) q_non (by first | exact nomark _ | rfl)) (q_glob (v := V.str (Str.ofString "different")) (d := D.str (Str.ofString "different")) (by exact rfl) h_DIFFERENT ⟨_, rfl⟩ (by exact rfl) (by decide)) (q_glob (v := V.str (Str.ofString "unknown")) (d := D.str (Str.ofString "unknown")) (by exact rfl) h_UNKNOWN ⟨_, rfl⟩ (by exact rfl) (by decide)))))))))), fun as k x h => ?_⟩
    clear tk hr hgd Fn sc T
    obtain ⟨n, fc, ds, d, i, j, rfl, ⟨hd, hfc, hok, n1, n2, hl, hi, hj⟩, hx, h⟩ := h
    walk_at "q"
    refine ⟨n, fc, ds, d, rfl, ⟨hd, hfc, hok, n1, n2, hl⟩, ?_⟩
    walk_at "q"
    refine ⟨⟨by omega, by omega, by omega, by omega⟩, ?_⟩
    walk_at "q"
    refine ⟨n, fc, ds, rfl, ⟨hfc, hok, by omega, by omega⟩, fun L p hL => ⟨fun hv => ?_, fun hv => ?_⟩⟩
    · walk_at "q"
      exact hx fun u hu => by obtain ⟨f, hf, v⟩ := hv; exact hL.no hok hu f hf v
    have fL := hL.fits hv
    walk_at "q"
    refine cIf_r rfl ?_
    walk_at "q"
    have hLl := hL.len
    have ha : L[i]? = some L[i] := List.getElem?_eq_getElem (by omega)
    have hb : L[j]? = some L[j] := List.getElem?_eq_getElem (by omega)
    obtain ⟨a, ha⟩ : ∃ a, L[i]? = some a := ⟨_, ha⟩
    obtain ⟨b, hb⟩ : ∃ b, L[j]? = some b := ⟨_, hb⟩
    refine ⟨ldF_no (by decide +kernel), L, p, i, j, a, b, rfl, ⟨by omega, by omega, ha, hb⟩, ?_⟩
    walk_at "q"
    by_cases e : a = b
    · refine cIf_l (decide_eq_true e) ?_
      walk_at "q"
      exact h "same" (.same L fL fun u hu => hL.all hu hi hj (by rw [ha, hb, e]))
    refine cIf_r (decide_eq_false e) ?_
    have ne : L[i]? ≠ L[j]? := fun z => e (Option.some.inj ((ha.symm.trans z).trans hb))
    have ok2 : ∀ f ∈ fc ++ [.same i j], FcOk n f := fun f hf => by
      rcases List.mem_append.mp hf with hf | hf
      · exact hok f hf
      · cases List.mem_singleton.mp hf
        exact ⟨hi, hj, fun z => ne (by rw [z])⟩
    walk_at "q"
    refine ⟨by omega, n, fc ++ [.same i j], _, rfl, ⟨hfc.append (.cons (.tup .same) .nil), ok2, by omega, by rw [List.length_append]; show _ + 1 ≤ _; omega⟩, fun M q hM => ⟨fun hv2 => ?_, fun hv2 => ?_⟩⟩
    · walk_at "q"
      exact h "different" (.diff L fL fun u hu hs => by obtain ⟨f, hf, v⟩ := hv2; exact hM.no ok2 (fit_same.mpr ⟨hu, hs⟩) f hf v)
    have fM := fit_same.mp (hM.fits hv2)
    walk_at "q"
    refine cIf_r rfl ?_
    walk_at "q"
    exact h "unknown" (.unk M L fM.1 fM.2 fL ne)
theorem cal_relation (T : Tx K mg) : Cal P w K mg base g 7 "relation" [] sp_relation := by
  obtain ⟨fd, G, Fn⟩ := fn_relation (P := P) (w := w) (base := base) (g := g) T
  exact ⟨_, fd, _, [], G, T.g_relation, Fn.kp, Fn.bindsN fun _ _ _ _ _ _ us hl => match us, hl with | [_, _, _, _], _ => rfl, .nil, rfl⟩
end

/-! ### _law_spring -/
def sp__law_spring : Spq := fun as k _ => ∃ ns, as = [.bor (.scr ns)] ∧ ns.length ≤ 63 ∧ ∀ dg sd, 0 ≤ dg → 0 ≤ sd → sd < 2 ^ 62 → k (.own (.lst [.int dg, .int sd, .int 0]))
section
variable {P : Program} {w : World} {K : Fg} {mg : Str → Option Value} {base : Heap} {g : Gd}
theorem sc__law_spring : FnScope ["_law_script", "_law_digits", "_law_seed", "_law_cell"] ["_law_script"] (defScope s__law_spring) := ⟨rfl, rfl, rfl, by decide +kernel, rfl, by decide +kernel, by decide +kernel⟩
theorem fn__law_spring (T : Tx K mg) : ∃ fd, FnG P w K mg base 1 (He.ga K "_law_spring") fd ["_law_script"] (spQ K mg g sp__law_spring) ∧ FunD K "_law_spring" "_law_spring" (defArgs s__law_spring) (defBody s__law_spring) (defScope s__law_spring) [] [] (He.ga K "_law_spring") fd := by
  have sc := sc__law_spring
  obtain ⟨fd, Fn⟩ := T.f__law_spring
  refine ⟨fd, fn_q g Fn sc (by decide) (fun as k x h => ?_) fun cdv A outer s H E hgd hr => ?_, Fn⟩
  · unfold sp__law_spring at h; first | (split at h <;> first | rfl | exact h.elim) | (obtain ⟨_, rfl, _⟩ := h; rfl) | (obtain ⟨_, _, rfl, _⟩ := h; rfl) | (obtain ⟨_, _, _, rfl, _⟩ := h; rfl) | (obtain ⟨_, _, _, _, rfl, _⟩ := h; rfl) | (obtain ⟨_, _, _, _, _, rfl, _⟩ := h; rfl) | (obtain ⟨_, _, _, _, _, _, rfl, _⟩ := h; rfl)
  · have tk : Takes (cxOf (L2.CX P w) P w K mg base ["_law_script", "_law_digits", "_law_seed", "_law_cell"] "_law_spring" (defScope s__law_spring) (He.ga K "_law_spring") cdv A outer s H E) (fun cls d _ H => E cls d H) := takes_of rfl rfl rfl rfl
    refine ⟨_, _, (qs_cons (qs_set (i := 1) (by exact sc.nd) (by exact rfl) (Or.inl rfl) q_int (by rfl) (by first | exact .inl rfl | exact .inr rfl | assumption))
      (qs_cons (qs_set (i := 2) (by exact sc.nd) (by exact rfl) (Or.inl rfl) q_int (by rfl) (by first | exact .inl rfl | exact .inr rfl | assumption))
      (qs_cons (qs_for [3] (qi_seq (QN.qe (qn_sl sl_Q o_sl (q_var 0) qo_none (qo_some q_int)))) (qg_name (i := 3) (by exact sc.nd) (by exact rfl) (by first | exact Or.inl rfl | exact Or.inr rfl) (by decide) (by first | exact .inl rfl | exact .inr rfl | assumption))
      (qs_cons (qs_if (qt_cmp op_ge o_ge (q_callB call_abs c_abs (by exact rfl) T.z_abs (by decide +kernel) (qa_cons (q_var 3) qa_nil (by rfl)) (by decide) (by decide) (by rfl) (by rfl)) (q_op op_pow o_pow q_int q_int) (by first | exact nomark _ | rfl)) (qs_one (qs_setN (i := 1) (by exact sc.nd) (by exact rfl) (Or.inl rfl) (qn_opR or_addQ o_add (QN.qe (qn_opR or_mulQ o_mul (q_var 1) (q_op op_pow o_pow q_int q_int))) (q_op op_mod o_mod (q_callB call_abs c_abs (by exact rfl) T.z_abs (by decide +kernel) (qa_cons (q_var 3) qa_nil (by rfl)) (by decide) (by decide) (by rfl) (by rfl)) (q_op op_pow o_pow q_int q_int))) (by rfl) (by first | exact .inl rfl | exact .inr rfl | assumption))) qs_nil)
      (qs_one (qs_set (i := 2) (by exact sc.nd) (by exact rfl) (Or.inl rfl) (q_op op_mod o_mod (QN.qe (qn_opR or_addQ o_add (QN.qe (qn_opR or_addQ o_add (QN.qe (qn_opR or_mulQ o_mul (q_var 2) q_int)) (q_op op_mod o_mod (q_var 3) q_int))) q_int)) q_int) (by rfl) (by first | exact .inl rfl | exact .inr rfl | assumption)))) (passes_of (by exact rfl)) (by rfl) (by intro _; rfl))
      (qs_one (qs_retN (qn_lst (qa_cons (q_var 1) (qa_cons (q_var 2) (qa_cons q_int qa_nil (by rfl)) (by rfl)) (by rfl)))))))), fun as k x h => ?_⟩
    clear tk hr hgd Fn sc T
    obtain ⟨ns, rfl, hl, h⟩ := h
    walk_at "q"
    rw [cut_to (by omega), List.take_of_length_le (by omega)]
    refine loop_rule (fun (p : Int × Int × Sl) => [.bor (.scr ns), .sh (.int p.1), .sh (.int p.2.1), p.2.2]) (fun m p => 0 ≤ p.1 ∧ p.1 < 2 ^ (200 * m) ∧ 0 ≤ p.2.1 ∧ p.2.1 < 2 ^ 62) (0, 88651, .no) (by decide) (fun m d a X hd hI hX => ?_) fun a hI => ?_
    · obtain ⟨dg, sd, sl⟩ := a
      obtain ⟨g0, g1, g2, g3⟩ := hI
      replace g0 : 0 ≤ dg := g0
      replace g1 : dg < 2 ^ (200 * m) := g1
      replace g2 : 0 ≤ sd := g2
      replace g3 : sd < 2 ^ 62 := g3
      obtain ⟨i, hi, rfl⟩ := ints_get hd
      have hm : m < ns.length := (List.getElem?_eq_some_iff.mp hi).1
      have fin : ∀ (dg' : Int) (sl' : Sl), 0 ≤ dg' → dg' < 2 ^ (200 * (m + 1)) → X [.bor (.scr ns), .sh (.int dg'), .sh (.int ((sd * 69069 + i % 2305843009213693921 + 7) % 2305843009213693951)), sl'] := fun dg' sl' h1 h2 =>
        hX (dg', _, sl') ⟨h1, h2, Int.emod_nonneg _ (by decide), Int.lt_of_lt_of_le (Int.emod_lt_of_pos _ (by decide)) (by decide)⟩
      have e2 : (2 : Int) ^ (200 * (m + 1)) = 2 ^ (200 * m) * 2 ^ 200 := by rw [Nat.mul_succ, Int.pow_add]
      have pos : (0 : Int) < 2 ^ (200 * m) := Int.pow_pos (by decide)
      have cms : CMul sd 69069 ∨ CMulW sd 69069 := .inl (.inl ⟨by omega, by omega⟩)
      have p18 : CPow 10 18 := ⟨by decide, by decide, by decide⟩
      have p60 : CPow 10 60 := ⟨by decide, by decide, by decide⟩
      walk_at "q"
      refine ⟨p18, ?_⟩
      refine cIf_i (fun h1 => ?_) (fun h1 => ?_)
      · walk_at "q"
        have hw : CMulW dg (10 ^ 60) := by
          show dg.natAbs.log2 + ((10 : Int) ^ 60).natAbs.log2 < 1000000
          have e3 : ((10 : Int) ^ 60).natAbs.log2 < 1000 := by decide +kernel
          by_cases h0 : dg.natAbs = 0
          · rw [h0, show Nat.log2 0 = 0 by decide +kernel]; omega
          · have : dg.natAbs.log2 < 200 * m := (Nat.log2_lt h0).mpr (by
              have : (dg.natAbs : Int) < ((2 ^ (200 * m) : Nat) : Int) := by
                rw [Int.natAbs_of_nonneg g0, Int.natCast_pow]; exact g1
              exact Int.ofNat_lt.mp this)
            omega
        have r0 : 0 ≤ (if i < 0 then -i else i) % 1000000000000000000000000000000000000000000000000000000000000 := Int.emod_nonneg _ (by decide)
        have r1 : (if i < 0 then -i else i) % 1000000000000000000000000000000000000000000000000000000000000 < 1000000000000000000000000000000000000000000000000000000000000 := Int.emod_lt_of_pos _ (by decide)
        generalize (if i < 0 then -i else i) % 1000000000000000000000000000000000000000000000000000000000000 = r at r0 r1 ⊢
        refine ⟨p60, .inr hw, p60, cms, fin _ _ (Int.add_nonneg (Int.mul_nonneg g0 (by decide)) r0) ?_⟩
        rw [e2]
        have a1 : dg * 1000000000000000000000000000000000000000000000000000000000000 + r < (dg + 1) * 1000000000000000000000000000000000000000000000000000000000000 := by rw [Int.add_mul]; omega
        have a2 : (dg + 1) * 1000000000000000000000000000000000000000000000000000000000000 ≤ 2 ^ (200 * m) * 1000000000000000000000000000000000000000000000000000000000000 := Int.mul_le_mul_of_nonneg_right g1 (by decide)
        have a3 : (2 : Int) ^ (200 * m) * 1000000000000000000000000000000000000000000000000000000000000 ≤ 2 ^ (200 * m) * 2 ^ 200 := Int.mul_le_mul_of_nonneg_left (by decide) (Int.le_of_lt pos)
        exact Int.lt_of_lt_of_le a1 (Int.le_trans a2 a3)
      · walk_at "q"
        refine ⟨cms, fin dg _ g0 ?_⟩
        rw [e2]
        exact Int.lt_of_lt_of_le g1 (by have : (1 : Int) ≤ 2 ^ 200 := by decide
                                        have := Int.mul_le_mul_of_nonneg_left this (Int.le_of_lt pos)
                                        omega)
    · walk_at "q"
      exact h _ _ hI.1 hI.2.2.1 hI.2.2.2
theorem cal__law_spring (T : Tx K mg) : Cal P w K mg base g 1 "_law_spring" [] sp__law_spring := by
  obtain ⟨fd, G, Fn⟩ := fn__law_spring (P := P) (w := w) (base := base) (g := g) T
  exact ⟨_, fd, _, [], G, T.g__law_spring, Fn.kp, Fn.bindsN fun _ _ _ _ _ _ us hl => match us, hl with | [_], _ => rfl, .nil, rfl⟩
end

/-! ### _law_draw -/
/-- the law's source of chance: digits of the large cells, a running number, the draws so far -/
def sprOk (ds : List D) : Prop := ∃ (dg seed cnt : Int), ds = [.int dg, .int seed, .int cnt] ∧ 0 ≤ dg ∧ 0 ≤ seed ∧ seed < 2 ^ 62 ∧ 0 ≤ cnt
def sprG : Gd := ⟨sprOk, fun _ => 0⟩
def sp__law_draw : Spq := fun as k _ => ∃ n, as = [.bag 0, .bor (.int n)] ∧ (0 < n ∧ n < 2 ^ 200) ∧ ∀ r, 0 ≤ r → r < n → k (.sh (.int r))
theorem e__law_draw {n : Int} {k : Rv → Prop} {x : Str → List D → Prop} : sp__law_draw [.bag 0, .bor (.int n)] k x = ((0 < n ∧ n < 2 ^ 200) ∧ ∀ r, 0 ≤ r → r < n → k (.sh (.int r))) := propext ⟨fun ⟨_, h, q⟩ => (by cases h; exact q), fun q => ⟨_, rfl, q⟩⟩
section
variable {P : Program} {w : World} {K : Fg} {mg : Str → Option Value} {base : Heap}
theorem sc__law_draw : FnScope ["_law_spring_here", "_law_many", "_law_mix", "_law_found"] ["_law_spring_here", "_law_many"] (defScope s__law_draw) := ⟨rfl, rfl, rfl, by decide +kernel, rfl, by decide +kernel, by decide +kernel⟩
abbrev sx (a b d : Int) : List V := [.int a, .int b, .int d]
theorem six0 {H : Hp} {p : Addr} {a b d : Int} {Q : VK} (h : H p = some (.lst (sx a b d))) (q : Q (.int a) H) : rIxQ K (.ref p) (.int 0) H Q := .inl ⟨_, _, _, _, rfl, rfl, SqL.of h, rfl, q⟩
theorem six1 {H : Hp} {p : Addr} {a b d : Int} {Q : VK} (h : H p = some (.lst (sx a b d))) (q : Q (.int b) H) : rIxQ K (.ref p) (.int 1) H Q := .inl ⟨_, _, _, _, rfl, rfl, SqL.of h, rfl, q⟩
theorem six2 {H : Hp} {p : Addr} {a b d : Int} {Q : VK} (h : H p = some (.lst (sx a b d))) (q : Q (.int d) H) : rIxQ K (.ref p) (.int 2) H Q := .inl ⟨_, _, _, _, rfl, rfl, SqL.of h, rfl, q⟩
theorem sst {H : Hp} {p : Addr} {a b d : Int} {j : Int} {m : Nat} {v : V} {Q : Hp → Prop} (h : H p = some (.lst (sx a b d))) (hj : ixN 3 j = some m) (q : Q (upd H p (.lst ((sx a b d).set m v)))) : rSetL (.ref p) (.int j) v H Q := ⟨_, _, _, _, rfl, rfl, h, hj, q⟩
theorem fn__law_draw (T : Tx K mg) : ∃ fd, FnG P w K mg base 1 (He.ga K "_law_draw") fd ["_law_spring_here", "_law_many"] (spQ K mg sprG sp__law_draw) ∧ FunD K "_law_draw" "_law_draw" (defArgs s__law_draw) (defBody s__law_draw) (defScope s__law_draw) [] [] (He.ga K "_law_draw") fd := by
  have sc := sc__law_draw
  obtain ⟨fd, Fn⟩ := T.f__law_draw
  obtain ⟨oc, od, dV, kV, doc, pm, an, cdv, ct, osl, rfl, lk, hcd, _, _⟩ := Fn.ex
  refine ⟨_, fnG_of lk hcd sc (fun vs H Q E h => ?_) (fun A outer s H vs Q E hgd hr h => ?_), Fn⟩
  · obtain ⟨_, F, S, b, as, k, x, _, _, _, h4, h5, _⟩ := h
    obtain ⟨n, rfl, _⟩ := h5
    exact h4.length
  refine ⟨_, QSs.pss (g := sprG) (W := W0) ((qs_cons (qs_if (qt_cmp op_gt o_gt (q_ix ix_Q o_ix (q_var 0) q_int (by exact fun _ _ => rfl)) q_int (by first | exact nomark _ | rfl)) (qs_cons (qs_set (i := 3) (by exact sc.nd) (by exact rfl) (Or.inl rfl) (q_op op_mod o_mod (q_ix ix_Q o_ix (q_var 0) q_int (by exact fun _ _ => rfl)) (q_var 1)) (by rfl) (by first | exact .inl rfl | exact .inr rfl | assumption))
      (qs_cons (qs_lput (i := 0) (by exact rfl) (by first | exact Or.inl rfl | exact Or.inr (Or.inl rfl) | exact Or.inr (Or.inr rfl)) q_int (q_op op_fdivW o_divW (q_ix ix_Q o_ix (q_var 0) q_int (by exact fun _ _ => rfl)) (q_var 1)) (by decide) (by decide) (by rfl) (by rfl) (by rfl) (by intro _; rfl))
      (qs_one (qs_ret (q_var 3))))) qs_nil)
      (qs_cons (qs_lput (i := 0) (by exact rfl) (by first | exact Or.inl rfl | exact Or.inr (Or.inl rfl) | exact Or.inr (Or.inr rfl)) q_int (QN.qe (qn_opR or_addQ o_add (q_ix ix_Q o_ix (q_var 0) q_int (by exact fun _ _ => rfl)) q_int)) (by decide) (by decide) (by rfl) (by rfl) (by rfl) (by intro _; rfl))
      (qs_cons (qs_set (i := 2) (by exact sc.nd) (by exact rfl) (Or.inl rfl) (q_op op_mod o_mod (QN.qe (qn_opR or_mulQ o_mul (q_ix ix_Q o_ix (q_var 0) q_int (by exact fun _ _ => rfl)) (q_ix ix_Q o_ix (q_var 0) q_int (by exact fun _ _ => rfl)))) q_int) (by rfl) (by first | exact .inl rfl | exact .inr rfl | assumption))
      (qs_cons (qs_lput (i := 0) (by exact rfl) (by first | exact Or.inl rfl | exact Or.inr (Or.inl rfl) | exact Or.inr (Or.inr rfl)) q_int (q_op op_mod o_mod (QN.qe (qn_opR or_addQ o_add (QN.qe (qn_opR or_addQ o_add (q_var 2) (QN.qe (qn_opR or_mulQ o_mul (QN.qe (qn_opR or_mulQ o_mul q_int (q_ix ix_Q o_ix (q_var 0) q_int (by exact fun _ _ => rfl)))) (q_ix ix_Q o_ix (q_var 0) q_int (by exact fun _ _ => rfl)))))) q_int)) q_int) (by decide) (by decide) (by rfl) (by rfl) (by rfl) (by intro _; rfl))
      (qs_one (qs_ret (q_op op_mod o_mod (q_op op_fdivW o_divW (q_ix ix_Q o_ix (q_var 0) q_int (by exact fun _ _ => rfl)) q_int) (q_var 1))))))))), ?_⟩
  clear hgd hr lk hcd Fn
  obtain ⟨M, F, S, b, as, k, x, hF, hS, hb, h4, h5, h6, h7⟩ := h
  obtain ⟨n, rfl, ⟨n1, n2⟩, hk⟩ := h5
  cases h4 with
  | cons ho hr =>
  cases hr with
  | cons hn hr2 =>
  cases hr2
  cases hn
  obtain ⟨p, rfl, rfl⟩ := ho
  obtain ⟨fp, sp, xs, ds, hp, rs, ok, hc, hM⟩ := hb p rfl
  obtain ⟨dg, seed, cnt, rfl, i1, i2, i3, c1⟩ := ok
  cases rs with
  | cons ra rs =>
  cases rs with
  | cons rb rs =>
  cases rs with
  | cons rd2 rs =>
  cases rs
  cases ra; cases rb; cases rd2
  have fin : ∀ (H' : Hp) (r dg' seed' cnt' : Int), H' p = some (.lst (sx dg' seed' cnt')) → (∀ a o, a ≠ p → H a = some o → H' a = some o) → 0 ≤ dg' → 0 ≤ seed' → seed' < 2 ^ 62 → 0 ≤ cnt' → 0 ≤ r → r < n → Q (.int r) H' := by
    intro H' r dg' seed' cnt' g1 g2 g3 g4 g5 g6 g8 g9
    refine h6 _ S H' (.sh (.int r)) (fun a o e => g2 a o (fun z => by subst z; rw [fp] at e; cases e) (hF a o e)) (fun a o e => g2 a o (fun z => by subst z; rw [sp] at e; cases e) (hS a o e)) Ext.refl (fun q e => ?_) (.int r) (hk r g8 g9)
    cases e
    exact ⟨fp, sp, _, [.int dg', .int seed', .int cnt'], g1, .cons (.int _) (.cons (.int _) (.cons (.int _) .nil)), ⟨dg', seed', cnt', rfl, g3, g4, g5, g6⟩, Nat.zero_le _, hM⟩
  simp only [tSeq, tIfS, tTest, tAnd, tOp, tVar, tC, tAsg, gSub, gName, tRet, tCall, tNext, tCons, tNil, tCB, List.map_nil, List.append_nil]
  have hlog : n.natAbs.log2 < 9000 := by
    have : n.natAbs.log2 < 200 := (Nat.log2_lt (by omega)).mpr (by omega)
    omega
  have cm : ∀ i j : Int, 0 ≤ i → i < 2 ^ 62 → CMul i j := fun i j h1 h2 => .inl ⟨by omega, by omega⟩
  have cm2 : ∀ i j : Int, 0 ≤ j → j < 2 ^ 62 → CMul i j := fun i j h1 h2 => .inr ⟨by omega, by omega⟩
  refine ⟨_, rfl, six0 hp ⟨_, _, rfl, rfl, _, rfl, ?_⟩⟩
  by_cases hd : (0 : Int) < dg
  · rw [if_pos (decide_eq_true hd)]
    refine ⟨_, rfl, six0 hp ⟨_, rfl, _, _, rfl, rfl, n1, ?_⟩⟩
    refine ⟨_, rfl, six0 hp ⟨_, rfl, _, _, rfl, rfl, ⟨n1, hlog⟩, _, rfl, sst hp (m := 0) rfl ?_⟩⟩
    refine ⟨_, rfl, ?_⟩
    exact fin _ _ (dg / n) seed cnt upd_same (fun a o h1 h2 => by rw [upd_ne h1]; exact h2) (Int.ediv_nonneg (by omega) (by omega)) i2 i3 c1 (Int.emod_nonneg _ (by omega)) (Int.emod_lt_of_pos _ n1)
  · rw [if_neg (by simpa using hd)]
    refine ⟨_, rfl, six2 hp (.inl ⟨_, _, rfl, rfl, _, rfl, sst hp (m := 2) rfl ?_⟩)⟩
    have k1 : ∀ H1, H1 = upd H p (.lst ((sx dg seed cnt).set 2 (.int (cnt + 1)))) → H1 p = some (.lst (sx dg seed (cnt + 1))) ∧ ∀ a o, a ≠ p → H a = some o → H1 a = some o := fun H1 e => by
      subst e
      exact ⟨upd_same, fun a o h1 h2 => by rw [upd_ne h1]; exact h2⟩
    generalize hH1 : upd H p (.lst ((sx dg seed cnt).set 2 (.int (cnt + 1)))) = H1
    obtain ⟨hp1, hk1⟩ := k1 H1 hH1.symm
    clear k1 hH1
    have hM0 : (0 : Int) < 2305843009213693951 := by decide
    refine ⟨_, rfl, six1 hp1 ⟨_, rfl, six1 hp1 (.inl ⟨_, _, rfl, rfl, cm _ _ i2 i3, _, _, rfl, rfl, hM0, ?_⟩)⟩⟩
    refine ⟨_, rfl, _, rfl, six2 hp1 (.inl ⟨_, _, rfl, rfl, cm 7919 _ (by decide) (by decide), _, rfl, six1 hp1 (.inl ⟨_, _, rfl, rfl, cm2 _ _ i2 i3, .inl ⟨_, _, rfl, rfl, .inl ⟨_, _, rfl, rfl, _, _, rfl, rfl, hM0, _, rfl, sst hp1 (m := 1) rfl ?_⟩⟩⟩)⟩)⟩
    dsimp only
    have s0 := Int.emod_nonneg (seed * seed % 2305843009213693951 + 7919 * (cnt + 1) * seed + 104729) (b := 2305843009213693951) (by decide)
    have s1 := Int.emod_lt_of_pos (seed * seed % 2305843009213693951 + 7919 * (cnt + 1) * seed + 104729) hM0
    generalize (seed * seed % 2305843009213693951 + 7919 * (cnt + 1) * seed + 104729) % 2305843009213693951 = seed2 at s0 s1 ⊢
    have k1 : ∀ H2, H2 = upd H1 p (.lst ((sx dg seed (cnt + 1)).set 1 (.int seed2))) → H2 p = some (.lst (sx dg seed2 (cnt + 1))) ∧ ∀ a o, a ≠ p → H a = some o → H2 a = some o := fun H2 e => by
      subst e
      exact ⟨upd_same, fun a o h1 h2 => by rw [upd_ne h1]; exact hk1 a o h1 h2⟩
    generalize hH2 : upd H1 p (.lst ((sx dg seed (cnt + 1)).set 1 (.int seed2))) = H2
    obtain ⟨hp2, hk2⟩ := k1 H2 hH2.symm
    clear k1 hH2
    refine ⟨_, rfl, six1 hp2 ⟨_, _, rfl, rfl, ⟨by decide, by decide⟩, _, rfl, _, _, rfl, rfl, n1, ?_⟩⟩
    exact fin _ _ dg seed2 (cnt + 1) hp2 hk2 i1 s0 (by omega) (by omega) (Int.emod_nonneg _ (by omega)) (Int.emod_lt_of_pos _ n1)
theorem cal__law_draw (T : Tx K mg) : Cal P w K mg base sprG 1 "_law_draw" [] sp__law_draw := by
  obtain ⟨fd, G, Fn⟩ := fn__law_draw (P := P) (w := w) (base := base) T
  exact ⟨_, fd, _, [], G, T.g__law_draw, Fn.kp, Fn.bindsN fun _ _ _ _ _ _ us hl => match us, hl with | [_, _], _ => rfl, .nil, rfl⟩

end

local macro_rules | `(tactic| walk_at "p") => `(tactic| (repeat (rw [pkV]; try walk_at "q")))
local macro_rules | `(tactic| walk_at "len") => `(tactic| (first | omega | (simp only [List.length_map, List.length_append, List.length_reverse, List.length_take, List.length_drop, List.length_dropLast, List.length_cons, List.length_nil, List.length_set, List.length_replicate, dist_length, nxt_length, idsD_length, numbered_length, ranged_length, upto_length]; omega)))
local macro_rules | `(tactic| walk_at "q") => `(tactic| (try simp only [↓hold1, ↓hold2, ↓cIf_t, ↓cIf_f, ↓lk0, ↓lk1, ↓st0, ↓st1, ↓wp0, ↓wp1, ↓wpm, ↓wpn, ↓sD_sh, ↓sD_own, ↓sD_bor, ↓rd_d, ↓rd_p, ↓dB_b, ↓dI_i, ↓dX_x, ↓dK_i, ↓dK_s, ↓dL_l, ↓dIt_l, ↓dIt_t, ↓dIt_s, ↓shS_sh, ↓shS_own, ↓shS_bor, ↓sh1_d, ↓sh1_p, ↓shs0, ↓shs1, ↓ress0, ↓ress1, ↓bagS_b, ↓arg_bor, ↓arg_sh, ↓arg_bag, ↓args0, ↓args1, ↓ap0, ↓ap0', ↓ap1, ↓reS_sh, ↓reS_own, ↓reS_bor, ↓ret_d, ↓ret_p, ↓asS_sh, ↓asS_own, ↓asS_bor, ↓as_d, ↓as_p, ↓rv_sh, ↓rv_own, ↓da_sh, ↓da_own, ↓itS_sh, ↓itS_own, ↓itS_bor, ↓it_d, ↓it_p, ↓e_var, ↓e_sh, ↓e_own, ↓e_bor, ↓e_bag, ↓e_c, ↓e_op, ↓e_opR, ↓e_test, ↓e_and, ↓e_or, ↓e_not, ↓e_andV, ↓e_orV, ↓e_notV, ↓e_ifE, ↓e_nil, ↓e_cons, ↓e_cb, ↓e_cbR, ↓e_ofN, ↓e_lst, ↓e_tup, ↓e_call, ↓e_callS, ↓e_next, ↓e_seq, ↓e_drop, ↓e_ret, ↓e_retN, ↓e_if, ↓e_set, ↓e_setN, ↓e_raise, ↓e_name, ↓e_gnil, ↓e_gcons, ↓e_gtup, ↓e_for, ↓e_seqI, ↓e_enum, ↓rg1_i, ↓rg2_i, ↓e_rng1, ↓e_rng2, ↓e_lc, ↓e_yes, ↓e_onone, ↓e_osome, ↓e_sl, ↓e_isi, ↓e_isi2, ↓ownL_l, ↓ownA_l, ↓sO_o, ↓e_meth, ↓e_dnew, ↓e_dput, ↓e_lput, ↓e_lenSet, ↓e_chain, ↓e_asgT, ↓e_toN, ↓e_parN, ↓e_getD, ↓f_inC, ↓f_inI, ↓f_inIT, ↓f_inS, ↓pkC0, ↓pkC_sh, ↓pkC_own, ↓pkC_bor, ↓pkC_bag, ↓pkC_no, ↓f_ix0, ↓f_ix1, ↓f_ix2, ↓f_ix3, ↓f_ix4, ↓f_ixT0, ↓f_ixT1, ↓f_ixT2, ↓f_ixT3, ↓f_ixT4, ↓e_loopC, ↓e_loopN, ↓e_step, ↓e_exI, ↓e_toI, ↓f_eqW1, ↓f_eqW2, ↓f_eqW3, ↓f_sortI, ↓f_eqNN, ↓f_notScrL, ↓f_notScrT, ↓f_eqSL, ↓f_neSL, ↓f_eqSNil, ↓f_neSNil, ↓f_neNN, ↓e_lstRg1, ↓e_ifN, ↓e_ixl0, ↓e_ixl1, ↓e_ixl2, ↓e_ixl3, ↓e_ixt0, ↓e_ixt1, ↓e_ixt2, ↓e_ixt3, ↓f_inT2S, ↓f_eqNl, ↓e_isEx, ↓f_nonE, ↓f_empC, ↓f_empN, ↓e_dObj, ↓e_lkHit, ↓e_pfHit, ↓e_pfNil, ↓e_fld, ↓e_fput, ↓e_startM, ↓e_mnx, ↓e_mrt, ↓e_mex, ↓e_npN, ↓e_npD, ↓e_npB, ↓e_npP, ↓e_callM, ↓e_callR, ↓e_make, ↓e_ty_int_T, ↓e_ty_int_O, ↓e_ty_bool_T, ↓e_ty_bool_O, ↓e_ty_str_T, ↓e_ty_str_O, ↓e_ty_list_T, ↓e_ty_list_O, ↓e_ty_tuple_T, ↓e_ty_tuple_O, ↓e_ty_dict_T, ↓e_ty_dict_O, ↓e_gunl, ↓f_sortITl, ↓f_sortITt, ↓e_tryC, ↓f_sub, ↓f_mod, ↓f_div, ↓f_divW, ↓f_pow, ↓f_lt, ↓f_le, ↓f_gt, ↓f_ge, ↓f_addI, ↓f_addS, ↓f_addL, ↓f_mulI, ↓f_mulL, ↓f_eqI, ↓f_neI, ↓f_eqS, ↓f_neS, ↓f_eqB, ↓f_neB, ↓f_isN, ↓f_isNotN, ↓f_lenL, ↓f_lenT, ↓f_lenR, ↓f_lenS, ↓f_min, ↓f_max, ↓f_abs, ↓f_intI, ↓f_intB, ↓f_listL, ↓f_listT, ↓f_listS, ↓f_tupL, ↓f_slL, ↓f_slR, ↓f_slT, ↓f_app, ↓f_ext, ↓f_allM, ↓f_anyM, ↓f_eqIL, ↓f_neIL, ↓f_eqIT, ↓f_neIT, ↓f_eqNil, ↓f_neNil, ↓e_is_integer_distances, ↓e_is_integer_distancesN, ↓e_is_sequence_distances, ↓e_is_distances, ↓e_is_integer_facts, ↓e_is_sequence_facts, ↓e_check_size, ↓e_are_two_positions, ↓e_is_fact_of, ↓e_check_positions, ↓e_distances_by, ↓e_linked_offsets, ↓e_representatives, ↓e_window_symbols, ↓e_states_different, ↓e__law_draw, ty_int_n, ty_int_b, ty_int_i, ty_int_s, ty_int_l, ty_int_t, ty_int_r, ty_int_d, ty_int_e, ty_bool_n, ty_bool_b, ty_bool_i, ty_bool_s, ty_bool_l, ty_bool_t, ty_bool_r, ty_bool_d, ty_bool_e, ty_str_n, ty_str_b, ty_str_i, ty_str_s, ty_str_l, ty_str_t, ty_str_r, ty_str_d, ty_str_e, ty_list_n, ty_list_b, ty_list_i, ty_list_s, ty_list_l, ty_list_t, ty_list_r, ty_list_d, ty_list_e, ty_tuple_n, ty_tuple_b, ty_tuple_i, ty_tuple_s, ty_tuple_l, ty_tuple_t, ty_tuple_r, ty_tuple_d, ty_tuple_e, ty_dict_n, ty_dict_b, ty_dict_i, ty_dict_s, ty_dict_l, ty_dict_t, ty_dict_r, ty_dict_d, ty_dict_e, cIf_t, cIf_f, cIf_n, isSc_n, isSc_b, isSc_i, isSc_s, ex_some, Int.reduceLT, Int.reduceLE, Int.reduceGT, Int.reduceGE, Int.reduceEq, Int.reduceNe, Int.reduceAdd, Int.reduceSub, Int.reduceMul, Int.reduceNeg, Int.reduceToNat, Int.reducePow, Nat.reduceLT, Nat.reduceAdd, Nat.reduceSub, Nat.reduceLeDiff, Nat.reduceEqDiff, Nat.reduceMul, Int.cast_ofNat_Int, true_or, true_and, and_true, List.length_cons, List.length_nil, List.length_map, n_n, n_b, n_i, n_s, n_l, n_t, se_c, se_n, se_0, ar_b, ar_s, ar_g, Bool.or_true, Bool.true_or, Bool.or_false, Bool.false_or, Bool.and_true, Bool.true_and, Bool.and_false, Bool.false_and, Bool.not_true, Bool.not_false, Bool.not_not, decide_true, decide_false, int_app, filter_tt, eq_self, Option.map_some, Option.map_none, Option.isSome_some, Option.isSome_none, Bool.false_eq_true, if_false, if_true, Nat.zero_add, Int.zero_add, Int.add_zero, Int.sub_zero, List.map_nil, List.nil_append, List.append_nil, int_rev, int_take, int_drop, int_dropLast, int_appL, e_toI, e_is_integer_distances, e_is_integer_distancesN, e_is_sequence_distances, e_is_distances, e_is_integer_facts, e_is_sequence_facts, e_check_size, e_are_two_positions, e_is_fact_of, e_check_positions, e_distances_by, e_linked_offsets, e_representatives, e_window_symbols, e_states_different, e__law_draw]))

/-! ### _law_same -/
def okSame : Nat → D → Bool
  | 0, _ => false
  | n + 1, .lst xs => decide (xs.length < 1000000) && xs.all (okSame n)
  | n + 1, .tup xs => decide (xs.length < 1000000) && xs.all (okSame n)
  | _ + 1, .dct _ => false
  | _ + 1, .scr _ => false
  | _ + 1, .exc _ => false
  | _ + 1, .dcT _ => false
  | _ + 1, .obj _ _ _ => false
  | _ + 1, _ => true
def sp__law_same_ : Nat → Spq
  | 0 => fun _ _ _ => False
  | n + 1 => fun as k _ => ∃ d, as = [.bor d, .bor d] ∧ okSame (n + 1) d = true ∧ k (.sh (.bl true))
section
variable {P : Program} {w : World} {K : Fg} {mg : Str → Option Value} {base : Heap} {g : Gd}
theorem sc__law_same : FnScope ["_law_found", "_law_due", "_law_k"] ["_law_found", "_law_due"] (defScope s__law_same) := ⟨rfl, rfl, rfl, by decide +kernel, rfl, by decide +kernel, by decide +kernel⟩
def sp__law_same : Spq := sp__law_same_ 5
theorem fn__law_same (T : Tx K mg) : ∀ n : Nat, ∃ fd, FnG P w K mg base (n + 1) (He.ga K "_law_same") fd ["_law_found", "_law_due"] (spQ K mg g (sp__law_same_ n)) ∧ FunD K "_law_same" "_law_same" (defArgs s__law_same) (defBody s__law_same) (defScope s__law_same) [] [] (He.ga K "_law_same") fd := by
  intro n
  induction n with
  | zero =>
    obtain ⟨fd, Fn⟩ := T.f__law_same
    exact ⟨fd, ⟨fun vs H Q E h => (by obtain ⟨_, _, _, _, _, _, _, _, _, _, _, h5, _⟩ := h; exact h5.elim), fun A outer s H args us vs Q E _ _ _ _ _ h => (by obtain ⟨_, _, _, _, _, _, _, _, _, _, _, h5, _⟩ := h; exact h5.elim)⟩, Fn⟩
  | succ n ih =>
    have sc := sc__law_same
    have C__law_same : Cal P w K mg base g (n + 1) "_law_same" [] (sp__law_same_ n) := by
      obtain ⟨fd, G, Fn⟩ := ih
      exact ⟨_, fd, _, [], G, T.g__law_same, Fn.kp, Fn.bindsN fun _ _ _ _ _ _ us hl => match us, hl with | [_, _], _ => rfl, .nil, rfl⟩
    obtain ⟨fd, Fn⟩ := T.f__law_same
    refine ⟨fd, (show FnG _ _ _ _ _ ((n + 1) + 1) _ _ _ _ from fn_q g Fn sc (by decide) (fun as k x h => ?_) fun cdv A outer s H E hgd hr => ?_).mono (by omega), Fn⟩
    · obtain ⟨_, rfl, _⟩ := h; rfl
    · have tk : Takes (cxOf (L2.CX P w) P w K mg base ["_law_found", "_law_due", "_law_k"] "_law_same" (defScope s__law_same) (He.ga K "_law_same") cdv A outer s H E) (fun cls d _ H => E cls d H) := takes_of rfl rfl rfl rfl
      refine ⟨_, _, (qs_cons (qs_if (qt_val (q_isi2 (T := "list") (U := "tuple") (by exact rfl) T.z_isinstance (by exact rfl) T.z_list (by decide +kernel) (by exact rfl) (by exact rfl) T.z_tuple (by decide +kernel) (by exact rfl) (q_var 1) (by decide) (by decide) (by decide) (by decide) (by rfl)) (by intro _; rfl)) (qs_cons (qs_if (QW.toT (qw_or (qt_cmp (or_neQ (by exact hr.units)) o_ne (q_isi (T := "list") (by exact rfl) T.z_isinstance (by exact rfl) T.z_list (by decide +kernel) (by exact rfl) (q_var 0) (by decide) (by decide) (by rfl)) (q_isi (T := "list") (by exact rfl) T.z_isinstance (by exact rfl) T.z_list (by decide +kernel) (by exact rfl) (q_var 1) (by decide) (by decide) (by rfl)) (by first | exact nomark _ | rfl)) (qw_or1 (qt_cmp (or_neQ (by exact hr.units)) o_ne (q_isi (T := "tuple") (by exact rfl) T.z_isinstance (by exact rfl) T.z_tuple (by decide +kernel) (by exact rfl) (q_var 0) (by decide) (by decide) (by rfl)) (q_isi (T := "tuple") (by exact rfl) T.z_isinstance (by exact rfl) T.z_tuple (by decide +kernel) (by exact rfl) (q_var 1) (by decide) (by decide) (by rfl)) (by first | exact nomark _ | rfl))))) (qs_one (qs_ret q_bl)) qs_nil)
      (qs_one (qs_ret (q_and (q_cmp (or_eqQ (by exact hr.units)) o_eq (q_callB call_len c_len (by exact rfl) T.z_len (by decide +kernel) (qa_cons (q_var 0) qa_nil (by rfl)) (by decide) (by decide) (by rfl) (by rfl)) (q_callB call_len c_len (by exact rfl) T.z_len (by decide +kernel) (qa_cons (q_var 1) qa_nil (by rfl)) (by decide) (by decide) (by rfl) (by rfl)) (by first | exact nomark _ | rfl)) (q_one (q_callB (cr_all rfl) c_all (by exact rfl) T.z_all (by decide +kernel) (qa_cons (QN.qe (qn_lcB [("_law_k", 2)] (by exact rfl) (by exact sc.nd) (qi_range1 (by exact rfl) T.z_range (qa_cons (q_callB call_len c_len (by exact rfl) T.z_len (by decide +kernel) (qa_cons (q_var 1) qa_nil (by rfl)) (by decide) (by decide) (by rfl) (by rfl)) qa_nil (by rfl)) (by rfl)) (blkOk_by (by kernel_rfl)) (fun _ _ _ _ _ => (qg_name (i := 2) (by exact sc.nd) (by exact rfl) (by first | exact Or.inl rfl | exact Or.inr rfl) (by decide) (by first | exact .inl rfl | exact .inr rfl | assumption))) (fun _ _ _ _ _ => qts_nil) (fun _ _ _ _ _ => (QN.qe (qn_call [.bor, .bor] C__law_same (by exact hgd) (by exact hr) (by omega) (by exact rfl) (qa_cons (q_ix ix_Q o_ix (q_var 0) (q_var 2) (by exact fun _ _ => rfl)) (qa_cons (q_ix ix_Q o_ix (q_var 1) (q_var 2) (by exact fun _ _ => rfl)) qa_nil (by rfl)) (by rfl)) (by decide) (by rfl) (by rfl)))) (by intro _; rfl) (by intros; rfl) (by intros; rfl) (by intros; rfl))) qa_nil (by rfl)) (by decide) (by decide) (by rfl) (by rfl))))))) qs_nil)
      (qs_cons (qs_if (QW.toT (qw_or (qt_cmp op_isN o_is (q_var 1) q_non (by first | exact nomark _ | rfl)) (qw_or1 (qt_cmp op_isN o_is (q_var 0) q_non (by first | exact nomark _ | rfl))))) (qs_one (qs_ret (q_and (q_cmp op_isN o_is (q_var 1) q_non (by first | exact nomark _ | rfl)) (q_one (q_cmp op_isN o_is (q_var 0) q_non (by first | exact nomark _ | rfl)))))) qs_nil)
      (qs_cons (qs_if (QW.toT (qw_or (qt_cmp (or_neQ (by exact hr.units)) o_ne (q_isi (T := "bool") (by exact rfl) T.z_isinstance (by exact rfl) T.z_bool (by decide +kernel) (by exact rfl) (q_var 1) (by decide) (by decide) (by rfl)) (q_isi (T := "bool") (by exact rfl) T.z_isinstance (by exact rfl) T.z_bool (by decide +kernel) (by exact rfl) (q_var 0) (by decide) (by decide) (by rfl)) (by first | exact nomark _ | rfl)) (qw_or1 (qt_cmp (or_neQ (by exact hr.units)) o_ne (q_isi (T := "str") (by exact rfl) T.z_isinstance (by exact rfl) T.z_str (by decide +kernel) (by exact rfl) (q_var 1) (by decide) (by decide) (by rfl)) (q_isi (T := "str") (by exact rfl) T.z_isinstance (by exact rfl) T.z_str (by decide +kernel) (by exact rfl) (q_var 0) (by decide) (by decide) (by rfl)) (by first | exact nomark _ | rfl))))) (qs_one (qs_ret q_bl)) qs_nil)
      (qs_one (qs_ret (q_cmp (or_eqQ (by exact hr.units)) o_eq (q_var 0) (q_var 1) (by first | exact nomark _ | rfl))))))), fun as k x h => ?_⟩
      clear tk hr hgd Fn sc T C__law_same ih
      obtain ⟨d, rfl, hok, h⟩ := h
      cases d
      all_goals first | (cases hok; done) | skip
      all_goals walk_at "q"
      all_goals first | exact h | skip
      case lst xs =>
        have hok : (decide (xs.length < 1000000) && xs.all (okSame n)) = true := hok
        rw [Bool.and_eq_true, decide_eq_true_eq, List.all_eq_true] at hok
        refine ⟨by omega, by omega, ?_⟩
        refine comp_pure (fun _ => true) (fun _ => .bl true) (fun i d acc X hd hl hX => ?_) ?_
        · rw [if_pos rfl] at hX
          obtain ⟨hi, rfl⟩ := ranged_get hd
          have hi2 : i < xs.length := by omega
          have hat : atI xs (0 + (i : Int)) = some xs[i] := by rw [Int.zero_add, atI_pos (by omega)]; exact List.getElem?_eq_getElem hi2
          have hx := hok.2 xs[i] (List.getElem_mem ..)
          have call : ∀ {k2 : Rv → Prop} {x2 : Str → List D → Prop}, k2 (.sh (.bl true)) → sp__law_same_ n [.bor xs[i], .bor xs[i]] k2 x2 := fun {k2 x2} q => by
            cases n with
            | zero => cases hx
            | succ n => exact ⟨_, rfl, hx, q⟩
          rw [Int.zero_add] at hat
          walk_at "q"
          rw [f_ixL]
          refine ⟨_, hat, ?_⟩
          walk_at "q"
          rw [f_ixL]
          refine ⟨_, hat, ?_⟩
          walk_at "q"
          refine call ?_
          walk_at "q"
          exact ⟨by omega, hX⟩
        rw [filter_tt]
        walk_at "q"
        rw [show (ranged 0 ((xs.length : Nat) : Int).toNat).all (fun _ => true) = true from List.all_eq_true.mpr fun _ _ => rfl]
        exact h
      case tup xs =>
        have hok : (decide (xs.length < 1000000) && xs.all (okSame n)) = true := hok
        rw [Bool.and_eq_true, decide_eq_true_eq, List.all_eq_true] at hok
        refine ⟨by omega, by omega, ?_⟩
        refine comp_pure (fun _ => true) (fun _ => .bl true) (fun i d acc X hd hl hX => ?_) ?_
        · rw [if_pos rfl] at hX
          obtain ⟨hi, rfl⟩ := ranged_get hd
          have hi2 : i < xs.length := by omega
          have hat : atI xs (0 + (i : Int)) = some xs[i] := by rw [Int.zero_add, atI_pos (by omega)]; exact List.getElem?_eq_getElem hi2
          have hx := hok.2 xs[i] (List.getElem_mem ..)
          have call : ∀ {k2 : Rv → Prop} {x2 : Str → List D → Prop}, k2 (.sh (.bl true)) → sp__law_same_ n [.bor xs[i], .bor xs[i]] k2 x2 := fun {k2 x2} q => by
            cases n with
            | zero => cases hx
            | succ n => exact ⟨_, rfl, hx, q⟩
          rw [Int.zero_add] at hat
          walk_at "q"
          rw [f_ixT]
          refine ⟨_, hat, ?_⟩
          walk_at "q"
          rw [f_ixT]
          refine ⟨_, hat, ?_⟩
          walk_at "q"
          refine call ?_
          walk_at "q"
          exact ⟨by omega, hX⟩
        rw [filter_tt]
        walk_at "q"
        rw [show (ranged 0 ((xs.length : Nat) : Int).toNat).all (fun _ => true) = true from List.all_eq_true.mpr fun _ _ => rfl]
        exact h
theorem cal__law_same (T : Tx K mg) : Cal P w K mg base g 6 "_law_same" [] sp__law_same := by
  obtain ⟨fd, G, Fn⟩ := fn__law_same (P := P) (w := w) (base := base) (g := g) T 5
  exact ⟨_, fd, _, [], G, T.g__law_same, Fn.kp, Fn.bindsN fun _ _ _ _ _ _ us hl => match us, hl with | [_, _], _ => rfl, .nil, rfl⟩
end

/-! ### _law_symbols -/

def sp__law_symbols : Spq := fun as k x => ∃ (n : Int), as = [.bag 0, .bor (.int n)] ∧ ((0 ≤ n ∧ n ≤ 400) ∧ ∀ w : List Int, w.length ≤ n → (∀ e ∈ w, 0 ≤ e ∧ e < 9) → k (.own (.lst (w.map .int))))
theorem e__law_symbols {n : Int} {k : Rv → Prop} {x : Str → List D → Prop} : sp__law_symbols [.bag 0, .bor (.int n)] k x = ((0 ≤ n ∧ n ≤ 400) ∧ ∀ w : List Int, w.length ≤ n → (∀ e ∈ w, 0 ≤ e ∧ e < 9) → k (.own (.lst (w.map .int)))) := propext ⟨fun h => (by
  obtain ⟨n2, h, q⟩ := h
  simp only [List.cons.injEq, Ar.bor.injEq, Ar.sh.injEq, Ar.bag.injEq, D.lst.injEq, D.tup.injEq, D.int.injEq, D.str.injEq, D.bl.injEq, ints_inj, strs_inj, and_true, true_and] at h
  subst h
  exact q), fun q => ⟨_, rfl, q⟩⟩

section
variable {P : Program} {w : World} {K : Fg} {mg : Str → Option Value} {base : Heap}
theorem sc__law_symbols : FnScope ["_law_spring_here", "_law_most", "_law_kinds", "_law_length", "_law_word", "_law_way", "_law_found", "_law_shift", "_law_k", "_law_symbol"] ["_law_spring_here", "_law_most"] (defScope s__law_symbols) := ⟨rfl, rfl, rfl, by decide +kernel, rfl, by decide +kernel, by decide +kernel⟩
theorem fn__law_symbols (T : Tx K mg) : ∃ fd, FnG P w K mg base 2 (He.ga K "_law_symbols") fd ["_law_spring_here", "_law_most"] (spQ K mg sprG sp__law_symbols) ∧ FunD K "_law_symbols" "_law_symbols" (defArgs s__law_symbols) (defBody s__law_symbols) (defScope s__law_symbols) [] [] (He.ga K "_law_symbols") fd := by
  have sc := sc__law_symbols
  have C__law_draw : Cal P w K mg base sprG 1 "_law_draw" [] sp__law_draw := cal__law_draw T
  obtain ⟨fd, Fn⟩ := T.f__law_symbols
  refine ⟨fd, fn_q sprG Fn sc (by decide) (fun as k x h => ?_) fun cdv A outer s H E hgd hr => ?_, Fn⟩
  · unfold sp__law_symbols at h; first | (split at h <;> first | rfl | exact h.elim) | (obtain ⟨_, rfl, _⟩ := h; rfl) | (obtain ⟨_, _, rfl, _⟩ := h; rfl) | (obtain ⟨_, _, _, rfl, _⟩ := h; rfl) | (obtain ⟨_, _, _, _, rfl, _⟩ := h; rfl) | (obtain ⟨_, _, _, _, _, rfl, _⟩ := h; rfl) | (obtain ⟨_, _, _, _, _, _, rfl, _⟩ := h; rfl)
  · have tk : Takes (cxOf (L2.CX P w) P w K mg base ["_law_spring_here", "_law_most", "_law_kinds", "_law_length", "_law_word", "_law_way", "_law_found", "_law_shift", "_law_k", "_law_symbol"] "_law_symbols" (defScope s__law_symbols) (He.ga K "_law_symbols") cdv A outer s H E) (fun cls d _ H => E cls d H) := takes_of rfl rfl rfl rfl
    refine ⟨_, _, (qs_cons (qs_setN (i := 2) (by exact sc.nd) (by exact rfl) (Or.inr rfl) (qn_opR or_addQ o_add q_int (QN.qe (qn_call [.bag 0, .bor] C__law_draw (by exact hgd) (by exact hr) (by omega) (by exact rfl) (qa_cons (q_var 0) (qa_cons (q_ix ix_Q o_ix (QN.qe (qn_lst (qa_cons q_int (qa_cons q_int (qa_cons q_int qa_nil (by rfl)) (by rfl)) (by rfl)))) (QN.qe (qn_call [.bag 0, .bor] C__law_draw (by exact hgd) (by exact hr) (by omega) (by exact rfl) (qa_cons (q_var 0) (qa_cons q_int qa_nil (by rfl)) (by rfl)) (by decide) (by rfl) (by rfl))) (by exact fun _ _ => rfl)) qa_nil (by rfl)) (by rfl)) (by decide) (by rfl) (by rfl)))) (by rfl) (by first | exact .inl rfl | exact .inr rfl | assumption))
      (qs_cons (qs_setN (i := 3) (by exact sc.nd) (by exact rfl) (Or.inl rfl) (qn_call [.bag 0, .bor] C__law_draw (by exact hgd) (by exact hr) (by omega) (by exact rfl) (qa_cons (q_var 0) (qa_cons (QN.qe (qn_opR or_addQ o_add (q_var 1) q_int)) qa_nil (by rfl)) (by rfl)) (by decide) (by rfl) (by rfl)) (by rfl) (by first | exact .inl rfl | exact .inr rfl | assumption))
      (qs_cons (qs_setLcB (i := 4) [("_law_k", 8)] (by exact rfl) (by exact sc.nd) (by exact rfl) (by exact rfl) (sw_true (by exact rfl) (by exact rfl) (by exact rfl) (by decide +kernel)) (qi_range1 (by exact rfl) T.z_range (qa_cons (QN.qe (qn_opR or_addQ o_add q_int (QN.qe (qn_call [.bag 0, .bor] C__law_draw (by exact hgd) (by exact hr) (by omega) (by exact rfl) (qa_cons (q_var 0) (qa_cons q_int qa_nil (by rfl)) (by rfl)) (by decide) (by rfl) (by rfl))))) qa_nil (by rfl)) (by rfl)) (blkOk_by (by kernel_rfl)) (fun _ _ _ _ _ => (qg_name (i := 8) (by exact sc.nd) (by exact rfl) (by first | exact Or.inl rfl | exact Or.inr rfl) (by decide) (by first | exact .inl rfl | exact .inr rfl | assumption))) (fun _ _ _ _ _ => qts_nil) (fun _ _ _ _ _ => (QN.qe (qn_call [.bag 0, .bor] C__law_draw (by exact hgd) (by exact hr) (by omega) (by exact rfl) (qa_cons (q_var 0) (qa_cons (q_var 2) qa_nil (by rfl)) (by rfl)) (by decide) (by rfl) (by rfl)))) (by intro _; rfl) (by intros; rfl) (by intros; rfl) (by intros; rfl))
      (qs_cons (qs_setN (i := 5) (by exact sc.nd) (by exact rfl) (Or.inl rfl) (qn_call [.bag 0, .bor] C__law_draw (by exact hgd) (by exact hr) (by omega) (by exact rfl) (qa_cons (q_var 0) (qa_cons q_int qa_nil (by rfl)) (by rfl)) (by decide) (by rfl) (by rfl)) (by rfl) (by first | exact .inl rfl | exact .inr rfl | assumption))
      (qs_cons (qs_if (qt_cmp (or_eqQ (by exact hr.units)) o_eq (q_var 5) q_int (by first | exact nomark _ | rfl)) (qs_one (qs_retN (qn_lcB [("_law_k", 8)] (by exact rfl) (by exact sc.nd) (qi_range1 (by exact rfl) T.z_range (qa_cons (q_var 3) qa_nil (by rfl)) (by rfl)) (blkOk_by (by kernel_rfl)) (fun _ _ _ _ _ => (qg_name (i := 8) (by exact sc.nd) (by exact rfl) (by first | exact Or.inl rfl | exact Or.inr rfl) (by decide) (by first | exact .inl rfl | exact .inr rfl | assumption))) (fun _ _ _ _ _ => qts_nil) (fun _ _ _ _ _ => (QN.qe (qn_call [.bag 0, .bor] C__law_draw (by exact hgd) (by exact hr) (by omega) (by exact rfl) (qa_cons (q_var 0) (qa_cons (q_var 2) qa_nil (by rfl)) (by rfl)) (by decide) (by rfl) (by rfl)))) (by intro _; rfl) (by intros; rfl) (by intros; rfl) (by intros; rfl)))) qs_nil)
      (qs_cons (qs_if (qt_cmp (or_eqQ (by exact hr.units)) o_eq (q_var 5) q_int (by first | exact nomark _ | rfl)) (qs_one (qs_retN (qn_sl sl_Q o_sl (QN.qe (qn_opR or_mulQ o_mul (q_var 4) (QN.qe (qn_opR or_addQ o_add (q_op op_fdiv o_div (q_var 3) (q_callB call_len c_len (by exact rfl) T.z_len (by decide +kernel) (qa_cons (q_var 4) qa_nil (by rfl)) (by decide) (by decide) (by rfl) (by rfl))) q_int)))) qo_none (qo_some (q_var 3))))) qs_nil)
      (qs_cons (qs_setN (i := 6) (by exact sc.nd) (by exact rfl) (Or.inl rfl) (qn_lst qa_nil) (by rfl) (by first | exact .inl rfl | exact .inr rfl | assumption))
      (qs_cons (qs_while (qt_cmp op_lt o_lt (q_callB call_len c_len (by exact rfl) T.z_len (by decide +kernel) (qa_cons (q_var 6) qa_nil (by rfl)) (by decide) (by decide) (by rfl) (by rfl)) (q_var 3) (by first | exact nomark _ | rfl)) (qs_cons (qs_setN (i := 7) (by exact sc.nd) (by exact rfl) (Or.inr rfl) (qn_call [.bag 0, .bor] C__law_draw (by exact hgd) (by exact hr) (by omega) (by exact rfl) (qa_cons (q_var 0) (qa_cons q_int qa_nil (by rfl)) (by rfl)) (by decide) (by rfl) (by rfl)) (by rfl) (by first | exact .inl rfl | exact .inr rfl | assumption))
      (qs_cons (qs_expr (q_meth (i := 6) PySem.F.slot_list_extend PySem.F.type_list_extend mt_extend m_extend (by exact rfl) (by first | exact Or.inl rfl | exact Or.inr (Or.inl rfl) | exact Or.inr (Or.inr rfl)) (qa_cons (QN.qe (qn_lcB [("_law_symbol", 9)] (by exact rfl) (by exact sc.nd) (qi_seq (q_var 4)) (blkOk_by (by kernel_rfl)) (fun _ _ _ _ _ => (qg_name (i := 9) (by exact sc.nd) (by exact rfl) (by first | exact Or.inl rfl | exact Or.inr rfl) (by decide) (by first | exact .inl rfl | exact .inr rfl | assumption))) (fun _ _ _ _ _ => qts_nil) (fun _ _ _ _ _ => (q_op op_mod o_mod (QN.qe (qn_opR or_addQ o_add (q_var 9) (q_var 7))) q_int)) (by intro _; rfl) (by intros; rfl) (by intros; rfl) (by intros; rfl))) qa_nil (by rfl)) (by decide) (by decide) (by rfl) (by rfl) (by rfl) (by rfl) (by rfl)) (by rfl))
      (qs_one (qs_if (qt_cmp (or_eqQ (by exact hr.units)) o_eq (QN.qe (qn_call [.bag 0, .bor] C__law_draw (by exact hgd) (by exact hr) (by omega) (by exact rfl) (qa_cons (q_var 0) (qa_cons q_int qa_nil (by rfl)) (by rfl)) (by decide) (by rfl) (by rfl))) q_int (by first | exact nomark _ | rfl)) (qs_one (qs_expr (q_meth (i := 6) PySem.F.slot_list_append PySem.F.type_list_append mt_append m_append (by exact rfl) (by first | exact Or.inl rfl | exact Or.inr (Or.inl rfl) | exact Or.inr (Or.inr rfl)) (qa_cons (QN.qe (qn_call [.bag 0, .bor] C__law_draw (by exact hgd) (by exact hr) (by omega) (by exact rfl) (qa_cons (q_var 0) (qa_cons (q_var 2) qa_nil (by rfl)) (by rfl)) (by decide) (by rfl) (by rfl))) qa_nil (by rfl)) (by decide) (by decide) (by rfl) (by rfl) (by rfl) (by rfl) (by rfl)) (by rfl))) qs_nil)))) (passes_of (by exact rfl)))
      (qs_one (qs_retN (qn_sl sl_Q o_sl (q_var 6) qo_none (qo_some (q_var 3))))))))))))), fun as k x h => ?_⟩
    clear tk hr hgd Fn sc T
    obtain ⟨n, rfl, ⟨n0, n1⟩, h⟩ := h
    walk_at "q"
    refine fun r r0 r1 => ix_pickI (fun v => 2 ≤ v ∧ v ≤ 9) r0 (by show _ < (3 : Int); omega) (fun d hd => ?_) fun v ⟨v0, v1⟩ => ?_
    · simp only [List.mem_cons, List.not_mem_nil, or_false] at hd
      rcases hd with rfl | rfl | rfl <;> exact ⟨_, rfl, by omega⟩
    walk_at "q"
    refine ⟨⟨by omega, by omega⟩, fun r r0 r1 => ?_⟩
    obtain ⟨kd, hk, k0, k1⟩ : ∃ kd : Int, kd = 1 + r ∧ 1 ≤ kd ∧ kd ≤ 9 := ⟨_, rfl, by omega, by omega⟩
    rw [← hk]
    refine ⟨⟨by omega, by omega⟩, fun len l0 l1 => fun c c0 c1 => ⟨by omega, by omega, ?_⟩⟩
    rw [ranged_upto]
    refine comp_rule (fun _ : Unit => [.bag 0, .bor (.int n), .sh (.int kd), .sh (.int len), .no, .no, .no, .no, .no, .no]) (fun i _ acc => ∃ u : List Int, acc = u.map .int ∧ u.length = i ∧ ∀ e ∈ u, 0 ≤ e ∧ e < 9) () ⟨[], rfl, rfl, by simp⟩ (fun i d b acc X hd hI hX => ?_) fun _ acc hI => ?_
    · obtain ⟨u, rfl, hu, hu2⟩ := hI
      obtain ⟨q, hq, rfl⟩ := ints_get hd
      obtain ⟨rfl, hn⟩ := upto_get hq
      walk_at "q"
      refine ⟨⟨by omega, by omega⟩, fun e e0 e1 => ⟨by omega, ?_⟩⟩
      exact hX () _ ⟨u ++ [e], rfl, by rw [List.length_append, hu]; rfl, fun z hz => by
        rcases List.mem_append.mp hz with hz | hz
        · exact hu2 z hz
        · rw [List.mem_singleton] at hz; omega⟩
    obtain ⟨u, rfl, hu, hu2⟩ := hI
    rw [List.length_map, upto_length] at hu
    have hu1 : 1 ≤ u.length := by omega
    have hu7 : u.length ≤ 6 := by omega
    walk_at "q"
    refine fun way w0 w1 => cIf_i (fun h1 => ?_) (fun h1 => ?_)
    · walk_at "q"
      refine ⟨by omega, by omega, ?_⟩
      rw [ranged_upto]
      refine comp_rule (fun _ : Unit => [.bag 0, .bor (.int n), .sh (.int kd), .sh (.int len), .own (.lst (u.map .int)), .sh (.int way), .no, .no, .no, .no]) (fun i _ acc => ∃ u : List Int, acc = u.map .int ∧ u.length = i ∧ ∀ e ∈ u, 0 ≤ e ∧ e < 9) () ⟨[], rfl, rfl, by simp⟩ (fun i d b acc X hd hI hX => ?_) fun _ acc hI => ?_
      · obtain ⟨u2, rfl, hu, hu2⟩ := hI
        obtain ⟨q, hq, rfl⟩ := ints_get hd
        obtain ⟨rfl, hn⟩ := upto_get hq
        walk_at "q"
        refine ⟨⟨by omega, by omega⟩, fun e e0 e1 => ⟨by omega, ?_⟩⟩
        exact hX () _ ⟨u2 ++ [e], rfl, by rw [List.length_append, hu]; rfl, fun z hz => by
          rcases List.mem_append.mp hz with hz | hz
          · exact hu2 z hz
          · rw [List.mem_singleton] at hz; omega⟩
      · obtain ⟨u2, rfl, hu, hu2⟩ := hI
        rw [List.length_map, upto_length] at hu
        walk_at "q"
        exact h u2 (by omega) hu2
    walk_at "q"
    refine cIf_i (fun h2 => ?_) (fun h2 => ?_)
    · walk_at "q"
      have hdv : len / (u.length : Int) ≤ len := Int.ediv_le_self _ (by omega)
      have hdv0 : 0 ≤ len / (u.length : Int) := Int.ediv_nonneg (by omega) (by omega)
      have hm : u.length * (len / (u.length : Int) + 1).toNat ≤ 6 * 402 := Nat.mul_le_mul hu7 (by omega)
      refine ⟨⟨by omega, by omega⟩, by omega, by omega, by omega, ?_⟩
      rw [rep_map, cut_to (by omega), int_take]
      refine h _ ?_ fun e he => hu2 e (rep_mem (List.mem_of_mem_take he))
      rw [List.length_take]; omega
    walk_at "q"
    refine while_rule (fun p : List Int × Sl × Sl => [.bag 0, .bor (.int n), .sh (.int kd), .sh (.int len), p.2.2, .sh (.int way), .own (.lst (p.1.map .int)), p.2.1, .no, .no]) (fun i p => p.1.length ≤ 500 ∧ len.toNat + 10 ≤ i + p.1.length ∧ (0 < i) ∧ (∀ e ∈ p.1, 0 ≤ e ∧ e < 9) ∧ (p.2.2 = .own (.lst (u.map .int)) ∨ p.2.2 = .sh (.lst (u.map .int)))) (len.toNat + 10) ([], .no, _) ⟨by simp, by simp, by omega, by simp, .inl rfl⟩ (fun a h => by omega) (fun i a X hI hX => ?_)
    obtain ⟨f, s7, s4⟩ := a
    obtain ⟨i1, i2, i3, i4, i5⟩ := hI
    simp only at i1 i2 i4 i5
    walk_at "q"
    refine cIf_i (fun h3 => ?_) (fun h3 => ?_)
    rotate_left
    · walk_at "q"
      rw [cut_to (by omega), int_take]
      refine h _ (by rw [List.length_take]; omega) fun e he => i4 e (List.mem_of_mem_take he)
    walk_at "q"
    refine fun sh sh0 sh1 => ?_
    have i6 : ∀ e ∈ f ++ u.map (fun e => (e + sh) % 9), 0 ≤ e ∧ e < 9 := fun e he => by
      rcases List.mem_append.mp he with he | he
      · exact i4 e he
      · obtain ⟨z, _, rfl⟩ := List.mem_map.mp he
        omega
    rcases i5 with rfl | rfl
    · walk_at "q"
      refine comp_mapI (fun e => (e + sh) % 9) (fun j e acc X2 hj hn hl hX2 => ?_) ?_
      · walk_at "q"
        exact ⟨by omega, hX2⟩
      walk_at "q"
      refine ⟨by omega, fun r r0 r1 => ?_⟩
      rw [int_appL]
      refine cIf_i (fun h4 => ?_) (fun h4 => ?_)
      · walk_at "q"
        refine ⟨⟨by omega, by omega⟩, fun e e0 e1 => ⟨by rw [List.length_append, List.length_map]; omega, ?_⟩⟩
        refine hX (f ++ u.map (fun e => (e + sh) % 9) ++ [e], _, _) ⟨?_, ?_, ?_, fun z hz => ?_, .inr rfl⟩
        · simp only [List.length_append, List.length_map, List.length_singleton]; omega
        · simp only [List.length_append, List.length_map, List.length_singleton]; omega
        · omega
        · rcases List.mem_append.mp hz with hz | hz
          · exact i6 z hz
          · rw [List.mem_singleton] at hz; omega
      · walk_at "q"
        refine hX (f ++ u.map (fun e => (e + sh) % 9), _, _) ⟨?_, ?_, ?_, i6, .inr rfl⟩
        · simp only [List.length_append, List.length_map]; omega
        · simp only [List.length_append, List.length_map]; omega
        · omega
    · walk_at "q"
      refine comp_mapI (fun e => (e + sh) % 9) (fun j e acc X2 hj hn hl hX2 => ?_) ?_
      · walk_at "q"
        exact ⟨by omega, hX2⟩
      walk_at "q"
      refine ⟨by omega, fun r r0 r1 => ?_⟩
      rw [int_appL]
      refine cIf_i (fun h4 => ?_) (fun h4 => ?_)
      · walk_at "q"
        refine ⟨⟨by omega, by omega⟩, fun e e0 e1 => ⟨by rw [List.length_append, List.length_map]; omega, ?_⟩⟩
        refine hX (f ++ u.map (fun e => (e + sh) % 9) ++ [e], _, _) ⟨?_, ?_, ?_, fun z hz => ?_, .inr rfl⟩
        · simp only [List.length_append, List.length_map, List.length_singleton]; omega
        · simp only [List.length_append, List.length_map, List.length_singleton]; omega
        · omega
        · rcases List.mem_append.mp hz with hz | hz
          · exact i6 z hz
          · rw [List.mem_singleton] at hz; omega
      · walk_at "q"
        refine hX (f ++ u.map (fun e => (e + sh) % 9), _, _) ⟨?_, ?_, ?_, i6, .inr rfl⟩
        · simp only [List.length_append, List.length_map]; omega
        · simp only [List.length_append, List.length_map]; omega
        · omega
theorem cal__law_symbols (T : Tx K mg) : Cal P w K mg base sprG 2 "_law_symbols" [] sp__law_symbols := by
  obtain ⟨fd, G, Fn⟩ := fn__law_symbols (P := P) (w := w) (base := base) T
  exact ⟨_, fd, _, [], G, T.g__law_symbols, Fn.kp, Fn.bindsN fun _ _ _ _ _ _ us hl => match us, hl with | [_, _], _ => rfl, .nil, rfl⟩
end

local macro_rules | `(tactic| walk_at "p") => `(tactic| (repeat (rw [pkV]; try walk_at "q")))
local macro_rules | `(tactic| walk_at "len") => `(tactic| (first | omega | (simp only [List.length_map, List.length_append, List.length_reverse, List.length_take, List.length_drop, List.length_dropLast, List.length_cons, List.length_nil, List.length_set, List.length_replicate, dist_length, nxt_length, idsD_length, numbered_length, ranged_length, upto_length]; omega)))
local macro_rules | `(tactic| walk_at "q") => `(tactic| (try simp only [↓hold1, ↓hold2, ↓cIf_t, ↓cIf_f, ↓lk0, ↓lk1, ↓st0, ↓st1, ↓wp0, ↓wp1, ↓wpm, ↓wpn, ↓sD_sh, ↓sD_own, ↓sD_bor, ↓rd_d, ↓rd_p, ↓dB_b, ↓dI_i, ↓dX_x, ↓dK_i, ↓dK_s, ↓dL_l, ↓dIt_l, ↓dIt_t, ↓dIt_s, ↓shS_sh, ↓shS_own, ↓shS_bor, ↓sh1_d, ↓sh1_p, ↓shs0, ↓shs1, ↓ress0, ↓ress1, ↓bagS_b, ↓arg_bor, ↓arg_sh, ↓arg_bag, ↓args0, ↓args1, ↓ap0, ↓ap0', ↓ap1, ↓reS_sh, ↓reS_own, ↓reS_bor, ↓ret_d, ↓ret_p, ↓asS_sh, ↓asS_own, ↓asS_bor, ↓as_d, ↓as_p, ↓rv_sh, ↓rv_own, ↓da_sh, ↓da_own, ↓itS_sh, ↓itS_own, ↓itS_bor, ↓it_d, ↓it_p, ↓e_var, ↓e_sh, ↓e_own, ↓e_bor, ↓e_bag, ↓e_c, ↓e_op, ↓e_opR, ↓e_test, ↓e_and, ↓e_or, ↓e_not, ↓e_andV, ↓e_orV, ↓e_notV, ↓e_ifE, ↓e_nil, ↓e_cons, ↓e_cb, ↓e_cbR, ↓e_ofN, ↓e_lst, ↓e_tup, ↓e_call, ↓e_callS, ↓e_next, ↓e_seq, ↓e_drop, ↓e_ret, ↓e_retN, ↓e_if, ↓e_set, ↓e_setN, ↓e_raise, ↓e_name, ↓e_gnil, ↓e_gcons, ↓e_gtup, ↓e_for, ↓e_seqI, ↓e_enum, ↓rg1_i, ↓rg2_i, ↓e_rng1, ↓e_rng2, ↓e_lc, ↓e_yes, ↓e_onone, ↓e_osome, ↓e_sl, ↓e_isi, ↓e_isi2, ↓ownL_l, ↓ownA_l, ↓sO_o, ↓e_meth, ↓e_dnew, ↓e_dput, ↓e_lput, ↓e_lenSet, ↓e_chain, ↓e_asgT, ↓e_toN, ↓e_parN, ↓e_getD, ↓f_inC, ↓f_inI, ↓f_inIT, ↓f_inS, ↓pkC0, ↓pkC_sh, ↓pkC_own, ↓pkC_bor, ↓pkC_bag, ↓pkC_no, ↓f_ix0, ↓f_ix1, ↓f_ix2, ↓f_ix3, ↓f_ix4, ↓f_ixT0, ↓f_ixT1, ↓f_ixT2, ↓f_ixT3, ↓f_ixT4, ↓e_loopC, ↓e_loopN, ↓e_step, ↓e_exI, ↓e_toI, ↓f_eqW1, ↓f_eqW2, ↓f_eqW3, ↓f_sortI, ↓f_eqNN, ↓f_notScrL, ↓f_notScrT, ↓f_eqSL, ↓f_neSL, ↓f_eqSNil, ↓f_neSNil, ↓f_neNN, ↓e_lstRg1, ↓e_ifN, ↓e_ixl0, ↓e_ixl1, ↓e_ixl2, ↓e_ixl3, ↓e_ixt0, ↓e_ixt1, ↓e_ixt2, ↓e_ixt3, ↓f_inT2S, ↓f_eqNl, ↓e_isEx, ↓f_nonE, ↓f_empC, ↓f_empN, ↓e_dObj, ↓e_lkHit, ↓e_pfHit, ↓e_pfNil, ↓e_fld, ↓e_fput, ↓e_startM, ↓e_mnx, ↓e_mrt, ↓e_mex, ↓e_npN, ↓e_npD, ↓e_npB, ↓e_npP, ↓e_callM, ↓e_callR, ↓e_make, ↓e_ty_int_T, ↓e_ty_int_O, ↓e_ty_bool_T, ↓e_ty_bool_O, ↓e_ty_str_T, ↓e_ty_str_O, ↓e_ty_list_T, ↓e_ty_list_O, ↓e_ty_tuple_T, ↓e_ty_tuple_O, ↓e_ty_dict_T, ↓e_ty_dict_O, ↓e_gunl, ↓f_sortITl, ↓f_sortITt, ↓e_tryC, ↓f_sub, ↓f_mod, ↓f_div, ↓f_divW, ↓f_pow, ↓f_lt, ↓f_le, ↓f_gt, ↓f_ge, ↓f_addI, ↓f_addS, ↓f_addL, ↓f_mulI, ↓f_mulL, ↓f_eqI, ↓f_neI, ↓f_eqS, ↓f_neS, ↓f_eqB, ↓f_neB, ↓f_isN, ↓f_isNotN, ↓f_lenL, ↓f_lenT, ↓f_lenR, ↓f_lenS, ↓f_min, ↓f_max, ↓f_abs, ↓f_intI, ↓f_intB, ↓f_listL, ↓f_listT, ↓f_listS, ↓f_tupL, ↓f_slL, ↓f_slR, ↓f_slT, ↓f_app, ↓f_ext, ↓f_allM, ↓f_anyM, ↓f_eqIL, ↓f_neIL, ↓f_eqIT, ↓f_neIT, ↓f_eqNil, ↓f_neNil, ↓e_is_integer_distances, ↓e_is_integer_distancesN, ↓e_is_sequence_distances, ↓e_is_distances, ↓e_is_integer_facts, ↓e_is_sequence_facts, ↓e_check_size, ↓e_are_two_positions, ↓e_is_fact_of, ↓e_check_positions, ↓e_distances_by, ↓e_linked_offsets, ↓e_representatives, ↓e_window_symbols, ↓e_states_different, ↓e__law_draw, ↓e__law_symbols, ty_int_n, ty_int_b, ty_int_i, ty_int_s, ty_int_l, ty_int_t, ty_int_r, ty_int_d, ty_int_e, ty_bool_n, ty_bool_b, ty_bool_i, ty_bool_s, ty_bool_l, ty_bool_t, ty_bool_r, ty_bool_d, ty_bool_e, ty_str_n, ty_str_b, ty_str_i, ty_str_s, ty_str_l, ty_str_t, ty_str_r, ty_str_d, ty_str_e, ty_list_n, ty_list_b, ty_list_i, ty_list_s, ty_list_l, ty_list_t, ty_list_r, ty_list_d, ty_list_e, ty_tuple_n, ty_tuple_b, ty_tuple_i, ty_tuple_s, ty_tuple_l, ty_tuple_t, ty_tuple_r, ty_tuple_d, ty_tuple_e, ty_dict_n, ty_dict_b, ty_dict_i, ty_dict_s, ty_dict_l, ty_dict_t, ty_dict_r, ty_dict_d, ty_dict_e, cIf_t, cIf_f, cIf_n, isSc_n, isSc_b, isSc_i, isSc_s, ex_some, Int.reduceLT, Int.reduceLE, Int.reduceGT, Int.reduceGE, Int.reduceEq, Int.reduceNe, Int.reduceAdd, Int.reduceSub, Int.reduceMul, Int.reduceNeg, Int.reduceToNat, Int.reducePow, Nat.reduceLT, Nat.reduceAdd, Nat.reduceSub, Nat.reduceLeDiff, Nat.reduceEqDiff, Nat.reduceMul, Int.cast_ofNat_Int, true_or, true_and, and_true, List.length_cons, List.length_nil, List.length_map, n_n, n_b, n_i, n_s, n_l, n_t, se_c, se_n, se_0, ar_b, ar_s, ar_g, Bool.or_true, Bool.true_or, Bool.or_false, Bool.false_or, Bool.and_true, Bool.true_and, Bool.and_false, Bool.false_and, Bool.not_true, Bool.not_false, Bool.not_not, decide_true, decide_false, int_app, filter_tt, eq_self, Option.map_some, Option.map_none, Option.isSome_some, Option.isSome_none, Bool.false_eq_true, if_false, if_true, Nat.zero_add, Int.zero_add, Int.add_zero, Int.sub_zero, List.map_nil, List.nil_append, List.append_nil, int_rev, int_take, int_drop, int_dropLast, int_appL, e_toI, e_is_integer_distances, e_is_integer_distancesN, e_is_sequence_distances, e_is_distances, e_is_integer_facts, e_is_sequence_facts, e_check_size, e_are_two_positions, e_is_fact_of, e_check_positions, e_distances_by, e_linked_offsets, e_representatives, e_window_symbols, e_states_different, e__law_draw, e__law_symbols]))

/-! ### _law_distances -/
def sp__law_distances : Spq := fun as k _ => ∃ (ds : List D) (ks : List Key), as = [.bor (.lst ds)] ∧ ds.map keyD = ks.map some ∧ ds.length < 1000000 ∧ k (.own (.lst ((dist ks).map .int)))
theorem e__law_distances {w : List Int} {k : Rv → Prop} {x : Str → List D → Prop} : sp__law_distances [.bor (.lst (w.map .int))] k x = (w.length < 1000000 ∧ k (.own (.lst ((dist w).map .int)))) := by
  have e : ∀ ks : List Key, (w.map D.int).map keyD = ks.map some → ks = w.map .inl := fun ks h => by
    have : (w.map (Sum.inl : Int → Key)).map some = ks.map some := by rw [← h, List.map_map, List.map_map]; rfl
    exact ((List.map_inj_right (fun a b h => Option.some.inj h)).mp this).symm
  have e2 : dist (w.map (Sum.inl : Int → Key)) = dist w := dist_map _ (fun a b h => Sum.inl.inj h) w
  apply propext
  constructor
  · rintro ⟨ds, ks, h, h2, h3, q⟩
    cases h
    have := e ks h2
    subst this
    rw [e2] at q
    rw [List.length_map] at h3
    exact ⟨h3, q⟩
  · rintro ⟨h3, q⟩
    refine ⟨_, w.map .inl, rfl, by rw [List.map_map, List.map_map]; rfl, by rw [List.length_map]; exact h3, ?_⟩
    rw [e2]; exact q
section
variable {P : Program} {w : World} {K : Fg} {mg : Str → Option Value} {base : Heap} {g : Gd}
theorem sc__law_distances : FnScope ["_law_symbols_here", "_law_found", "_law_last", "_law_position", "_law_symbol"] ["_law_symbols_here"] (defScope s__law_distances) := ⟨rfl, rfl, rfl, by decide +kernel, rfl, by decide +kernel, by decide +kernel⟩
theorem fn__law_distances (T : Tx K mg) : ∃ fd, FnG P w K mg base 1 (He.ga K "_law_distances") fd ["_law_symbols_here"] (spQ K mg g sp__law_distances) ∧ FunD K "_law_distances" "_law_distances" (defArgs s__law_distances) (defBody s__law_distances) (defScope s__law_distances) [] [] (He.ga K "_law_distances") fd := by
  have sc := sc__law_distances
  obtain ⟨fd, Fn⟩ := T.f__law_distances
  refine ⟨fd, fn_q g Fn sc (by decide) (fun as k x h => ?_) fun cdv A outer s H E hgd hr => ?_, Fn⟩
  · unfold sp__law_distances at h; first | (split at h <;> first | rfl | exact h.elim) | (obtain ⟨_, rfl, _⟩ := h; rfl) | (obtain ⟨_, _, rfl, _⟩ := h; rfl) | (obtain ⟨_, _, _, rfl, _⟩ := h; rfl) | (obtain ⟨_, _, _, _, rfl, _⟩ := h; rfl) | (obtain ⟨_, _, _, _, _, rfl, _⟩ := h; rfl) | (obtain ⟨_, _, _, _, _, _, rfl, _⟩ := h; rfl)
  · have tk : Takes (cxOf (L2.CX P w) P w K mg base ["_law_symbols_here", "_law_found", "_law_last", "_law_position", "_law_symbol"] "_law_distances" (defScope s__law_distances) (He.ga K "_law_distances") cdv A outer s H E) (fun cls d _ H => E cls d H) := takes_of rfl rfl rfl rfl
    refine ⟨_, _, (qs_cons (qs_setN (i := 1) (by exact sc.nd) (by exact rfl) (Or.inl rfl) (qn_lst qa_nil) (by rfl) (by first | exact .inl rfl | exact .inr rfl | assumption))
      (qs_cons (qs_setN (i := 2) (by exact sc.nd) (by exact rfl) (Or.inl rfl) qn_dict (by rfl) (by first | exact .inl rfl | exact .inr rfl | assumption))
      (qs_cons (qs_for [3, 4] (qi_enum (by exact rfl) T.z_enumerate (q_var 0) (by rfl)) (qg_tup (n := 2) (by exact rfl) (qgs_cons (qg_name (i := 3) (by exact sc.nd) (by exact rfl) (by first | exact Or.inl rfl | exact Or.inr rfl) (by decide) (by first | exact .inl rfl | exact .inr rfl | assumption)) (qgs_cons (qg_name (i := 4) (by exact sc.nd) (by exact rfl) (by first | exact Or.inl rfl | exact Or.inr rfl) (by decide) (by first | exact .inl rfl | exact .inr rfl | assumption)) qgs_nil (by rfl)) (by rfl)) (by rfl) (by rfl))
      (qs_cons (qs_expr (q_meth (i := 1) PySem.F.slot_list_append PySem.F.type_list_append mt_append m_append (by exact rfl) (by first | exact Or.inl rfl | exact Or.inr (Or.inl rfl) | exact Or.inr (Or.inr rfl)) (qa_cons (q_op op_sub o_sub (q_var 3) (q_getD (by exact hu_of hr) (q_var 2) (q_var 4) (q_var 3) ⟨(by rfl), (by rfl), (by rfl), (by rfl)⟩)) qa_nil (by rfl)) (by decide) (by decide) (by rfl) (by rfl) (by rfl) (by rfl) (by rfl)) (by rfl))
      (qs_one (qs_dput (i := 2) (by exact hu_of hr) (by exact rfl) (by first | exact Or.inl rfl | exact Or.inr (Or.inl rfl) | exact Or.inr (Or.inr rfl)) (q_var 4) (q_var 3) (by decide) (by decide) (by rfl)))) (passes_of (by exact rfl)) (by rfl) (by intro _; rfl))
      (qs_one (qs_ret (q_var 1)))))), fun as k x h => ?_⟩
    clear tk hr hgd Fn sc T
    obtain ⟨ds, ks, rfl, hk, hl, h⟩ := h
    walk_at "q"
    have hkl : ks.length = ds.length := by have := congrArg List.length hk; simpa using this.symm
    have kAt : ∀ (n : Nat) (e : D), ds[n]? = some e → ∃ key, ks[n]? = some key ∧ keyD e = some key := fun n e he => by
      have := congrArg (fun l => l[n]?) hk
      simp only [List.getElem?_map, he, Option.map_some] at this
      cases hkn : ks[n]? with
      | none => rw [hkn] at this; cases this
      | some key => rw [hkn] at this; exact ⟨key, rfl, by simpa using this⟩
    refine loop_rule (fun (p : List (Key × D) × List Int × Sl × Sl) => [.bor (.lst ds), .own (.lst (p.2.1.map .int)), .own (.dct p.1), p.2.2.1, p.2.2.2])
      (fun m p => p.2.1 = (List.range m).map (dAt ks) ∧ p.1.length ≤ m ∧ ∀ key, vD p.1 key = (lastIn (fun j => decide (ks[j]? = some key)) m).map fun j => D.int (j : Nat)) ([], [], .no, .no) ⟨rfl, Nat.le_refl _, fun key => rfl⟩ (fun m d a X hd hI hX => ?_) fun a hI => ?_
    · obtain ⟨kvs, w, s1, s2⟩ := a
      obtain ⟨hw, hl2, hv⟩ := hI
      replace hw : w = (List.range m).map (dAt ks) := hw
      replace hl2 : kvs.length ≤ m := hl2
      replace hv : ∀ key, vD kvs key = (lastIn (fun j => decide (ks[j]? = some key)) m).map fun j => D.int (j : Nat) := hv
      obtain ⟨e, he, rfl⟩ := num_get hd
      obtain ⟨key, hkm, hke⟩ := kAt m e he
      have hm : m < ds.length := (List.getElem?_eq_some_iff.mp he).1
      have wl : w.length = m := by rw [hw]; simp
      have fin : ∀ s1' s2', X [.bor (.lst ds), .own (.lst ((w ++ [dAt ks m]).map .int)), .own (.dct (pD kvs key (.int m))), s1', s2'] := fun s1' s2' => by
        refine hX (pD kvs key (.int m), w ++ [dAt ks m], s1', s2') ⟨?_, ?_, fun k2 => ?_⟩
        · show w ++ [dAt ks m] = _
          rw [List.range_succ, List.map_append, hw]; rfl
        · exact Nat.le_trans (pD_length kvs key _) (by omega)
        · show vD (pD kvs key (.int m)) k2 = _
          rw [vD_put]
          unfold lastIn
          rw [hkm]
          by_cases h1 : k2 = key
          · subst h1; simp
          · have : ¬ key = k2 := fun e => h1 e.symm
            rw [if_neg h1, hv]
            simp [this]
      have hdk : ∀ f : Key → Prop, dK f e = f key := fun f => by
        cases e <;> cases hke <;> rfl
      walk_at "q"
      simp only [hdk]
      cases hc : lastIn (fun j => decide (ks[j]? = some key)) m with
      | none =>
        have hv2 : vD kvs key = none := by rw [hv, hc]; rfl
        have hd0 : dAt ks m = 0 := by unfold dAt; rw [hkm, hc]
        rw [hd0] at fin
        refine getC_none hv2 ?_
        try walk_at "q"
        try simp only [hdk, Int.sub_self]
        exact ⟨by omega, by omega, fin _ _⟩
      | some j =>
        have hv2 : vD kvs key = some (.int (j : Nat)) := by rw [hv, hc]; rfl
        have hd0 : dAt ks m = (m : Int) - (j : Nat) := by unfold dAt; rw [hkm, hc]
        rw [hd0] at fin
        refine getC_some hv2 ?_
        try walk_at "q"
        try simp only [hdk]
        exact ⟨by omega, by omega, fin _ _⟩
    · walk_at "q"
      obtain ⟨hw, _, _⟩ := hI
      rw [numbered_length] at hw
      rw [show a.2.1 = dist ks by rw [hw]; unfold dist; rw [hkl]]
      exact h
theorem cal__law_distances (T : Tx K mg) : Cal P w K mg base g 1 "_law_distances" [] sp__law_distances := by
  obtain ⟨fd, G, Fn⟩ := fn__law_distances (P := P) (w := w) (base := base) (g := g) T
  exact ⟨_, fd, _, [], G, T.g__law_distances, Fn.kp, Fn.bindsN fun _ _ _ _ _ _ us hl => match us, hl with | [_], _ => rfl, .nil, rfl⟩
end

local macro_rules | `(tactic| walk_at "p") => `(tactic| (repeat (rw [pkV]; try walk_at "q")))
local macro_rules | `(tactic| walk_at "len") => `(tactic| (first | omega | (simp only [List.length_map, List.length_append, List.length_reverse, List.length_take, List.length_drop, List.length_dropLast, List.length_cons, List.length_nil, List.length_set, List.length_replicate, dist_length, nxt_length, idsD_length, numbered_length, ranged_length, upto_length]; omega)))
local macro_rules | `(tactic| walk_at "q") => `(tactic| (try simp only [↓hold1, ↓hold2, ↓cIf_t, ↓cIf_f, ↓lk0, ↓lk1, ↓st0, ↓st1, ↓wp0, ↓wp1, ↓wpm, ↓wpn, ↓sD_sh, ↓sD_own, ↓sD_bor, ↓rd_d, ↓rd_p, ↓dB_b, ↓dI_i, ↓dX_x, ↓dK_i, ↓dK_s, ↓dL_l, ↓dIt_l, ↓dIt_t, ↓dIt_s, ↓shS_sh, ↓shS_own, ↓shS_bor, ↓sh1_d, ↓sh1_p, ↓shs0, ↓shs1, ↓ress0, ↓ress1, ↓bagS_b, ↓arg_bor, ↓arg_sh, ↓arg_bag, ↓args0, ↓args1, ↓ap0, ↓ap0', ↓ap1, ↓reS_sh, ↓reS_own, ↓reS_bor, ↓ret_d, ↓ret_p, ↓asS_sh, ↓asS_own, ↓asS_bor, ↓as_d, ↓as_p, ↓rv_sh, ↓rv_own, ↓da_sh, ↓da_own, ↓itS_sh, ↓itS_own, ↓itS_bor, ↓it_d, ↓it_p, ↓e_var, ↓e_sh, ↓e_own, ↓e_bor, ↓e_bag, ↓e_c, ↓e_op, ↓e_opR, ↓e_test, ↓e_and, ↓e_or, ↓e_not, ↓e_andV, ↓e_orV, ↓e_notV, ↓e_ifE, ↓e_nil, ↓e_cons, ↓e_cb, ↓e_cbR, ↓e_ofN, ↓e_lst, ↓e_tup, ↓e_call, ↓e_callS, ↓e_next, ↓e_seq, ↓e_drop, ↓e_ret, ↓e_retN, ↓e_if, ↓e_set, ↓e_setN, ↓e_raise, ↓e_name, ↓e_gnil, ↓e_gcons, ↓e_gtup, ↓e_for, ↓e_seqI, ↓e_enum, ↓rg1_i, ↓rg2_i, ↓e_rng1, ↓e_rng2, ↓e_lc, ↓e_yes, ↓e_onone, ↓e_osome, ↓e_sl, ↓e_isi, ↓e_isi2, ↓ownL_l, ↓ownA_l, ↓sO_o, ↓e_meth, ↓e_dnew, ↓e_dput, ↓e_lput, ↓e_lenSet, ↓e_chain, ↓e_asgT, ↓e_toN, ↓e_parN, ↓e_getD, ↓f_inC, ↓f_inI, ↓f_inIT, ↓f_inS, ↓pkC0, ↓pkC_sh, ↓pkC_own, ↓pkC_bor, ↓pkC_bag, ↓pkC_no, ↓f_ix0, ↓f_ix1, ↓f_ix2, ↓f_ix3, ↓f_ix4, ↓f_ixT0, ↓f_ixT1, ↓f_ixT2, ↓f_ixT3, ↓f_ixT4, ↓e_loopC, ↓e_loopN, ↓e_step, ↓e_exI, ↓e_toI, ↓f_eqW1, ↓f_eqW2, ↓f_eqW3, ↓f_sortI, ↓f_eqNN, ↓f_notScrL, ↓f_notScrT, ↓f_eqSL, ↓f_neSL, ↓f_eqSNil, ↓f_neSNil, ↓f_neNN, ↓e_lstRg1, ↓e_ifN, ↓e_ixl0, ↓e_ixl1, ↓e_ixl2, ↓e_ixl3, ↓e_ixt0, ↓e_ixt1, ↓e_ixt2, ↓e_ixt3, ↓f_inT2S, ↓f_eqNl, ↓e_isEx, ↓f_nonE, ↓f_empC, ↓f_empN, ↓e_dObj, ↓e_lkHit, ↓e_pfHit, ↓e_pfNil, ↓e_fld, ↓e_fput, ↓e_startM, ↓e_mnx, ↓e_mrt, ↓e_mex, ↓e_npN, ↓e_npD, ↓e_npB, ↓e_npP, ↓e_callM, ↓e_callR, ↓e_make, ↓e_ty_int_T, ↓e_ty_int_O, ↓e_ty_bool_T, ↓e_ty_bool_O, ↓e_ty_str_T, ↓e_ty_str_O, ↓e_ty_list_T, ↓e_ty_list_O, ↓e_ty_tuple_T, ↓e_ty_tuple_O, ↓e_ty_dict_T, ↓e_ty_dict_O, ↓e_gunl, ↓f_sortITl, ↓f_sortITt, ↓e_tryC, ↓f_sub, ↓f_mod, ↓f_div, ↓f_divW, ↓f_pow, ↓f_lt, ↓f_le, ↓f_gt, ↓f_ge, ↓f_addI, ↓f_addS, ↓f_addL, ↓f_mulI, ↓f_mulL, ↓f_eqI, ↓f_neI, ↓f_eqS, ↓f_neS, ↓f_eqB, ↓f_neB, ↓f_isN, ↓f_isNotN, ↓f_lenL, ↓f_lenT, ↓f_lenR, ↓f_lenS, ↓f_min, ↓f_max, ↓f_abs, ↓f_intI, ↓f_intB, ↓f_listL, ↓f_listT, ↓f_listS, ↓f_tupL, ↓f_slL, ↓f_slR, ↓f_slT, ↓f_app, ↓f_ext, ↓f_allM, ↓f_anyM, ↓f_eqIL, ↓f_neIL, ↓f_eqIT, ↓f_neIT, ↓f_eqNil, ↓f_neNil, ↓e_is_integer_distances, ↓e_is_integer_distancesN, ↓e_is_sequence_distances, ↓e_is_distances, ↓e_is_integer_facts, ↓e_is_sequence_facts, ↓e_check_size, ↓e_are_two_positions, ↓e_is_fact_of, ↓e_check_positions, ↓e_distances_by, ↓e_linked_offsets, ↓e_representatives, ↓e_window_symbols, ↓e_states_different, ↓e__law_draw, ↓e__law_symbols, ↓e__law_distances, ty_int_n, ty_int_b, ty_int_i, ty_int_s, ty_int_l, ty_int_t, ty_int_r, ty_int_d, ty_int_e, ty_bool_n, ty_bool_b, ty_bool_i, ty_bool_s, ty_bool_l, ty_bool_t, ty_bool_r, ty_bool_d, ty_bool_e, ty_str_n, ty_str_b, ty_str_i, ty_str_s, ty_str_l, ty_str_t, ty_str_r, ty_str_d, ty_str_e, ty_list_n, ty_list_b, ty_list_i, ty_list_s, ty_list_l, ty_list_t, ty_list_r, ty_list_d, ty_list_e, ty_tuple_n, ty_tuple_b, ty_tuple_i, ty_tuple_s, ty_tuple_l, ty_tuple_t, ty_tuple_r, ty_tuple_d, ty_tuple_e, ty_dict_n, ty_dict_b, ty_dict_i, ty_dict_s, ty_dict_l, ty_dict_t, ty_dict_r, ty_dict_d, ty_dict_e, cIf_t, cIf_f, cIf_n, isSc_n, isSc_b, isSc_i, isSc_s, ex_some, Int.reduceLT, Int.reduceLE, Int.reduceGT, Int.reduceGE, Int.reduceEq, Int.reduceNe, Int.reduceAdd, Int.reduceSub, Int.reduceMul, Int.reduceNeg, Int.reduceToNat, Int.reducePow, Nat.reduceLT, Nat.reduceAdd, Nat.reduceSub, Nat.reduceLeDiff, Nat.reduceEqDiff, Nat.reduceMul, Int.cast_ofNat_Int, true_or, true_and, and_true, List.length_cons, List.length_nil, List.length_map, n_n, n_b, n_i, n_s, n_l, n_t, se_c, se_n, se_0, ar_b, ar_s, ar_g, Bool.or_true, Bool.true_or, Bool.or_false, Bool.false_or, Bool.and_true, Bool.true_and, Bool.and_false, Bool.false_and, Bool.not_true, Bool.not_false, Bool.not_not, decide_true, decide_false, int_app, filter_tt, eq_self, Option.map_some, Option.map_none, Option.isSome_some, Option.isSome_none, Bool.false_eq_true, if_false, if_true, Nat.zero_add, Int.zero_add, Int.add_zero, Int.sub_zero, List.map_nil, List.nil_append, List.append_nil, int_rev, int_take, int_drop, int_dropLast, int_appL, e_toI, e_is_integer_distances, e_is_integer_distancesN, e_is_sequence_distances, e_is_distances, e_is_integer_facts, e_is_sequence_facts, e_check_size, e_are_two_positions, e_is_fact_of, e_check_positions, e_distances_by, e_linked_offsets, e_representatives, e_window_symbols, e_states_different, e__law_draw, e__law_symbols, e__law_distances]))

/-! ### _law_window -/

def sp__law_window : Spq := fun as k x => ∃ (w : List Int) (s : Int) (m : Int), as = [.bor (.lst (w.map .int)), .bor (.int s), .bor (.int m)] ∧ ((0 ≤ s ∧ 0 ≤ m ∧ w.length ≤ 1000) ∧ (k (.own (.lst ((dist ((w.drop s.toNat).take m.toNat)).map .int)))))
theorem e__law_window {w : List Int} {s : Int} {m : Int} {k : Rv → Prop} {x : Str → List D → Prop} : sp__law_window [.bor (.lst (w.map .int)), .bor (.int s), .bor (.int m)] k x = ((0 ≤ s ∧ 0 ≤ m ∧ w.length ≤ 1000) ∧ (k (.own (.lst ((dist ((w.drop s.toNat).take m.toNat)).map .int))))) := propext ⟨fun h => (by
  obtain ⟨w2, s2, m2, h, q⟩ := h
  simp only [List.cons.injEq, Ar.bor.injEq, Ar.sh.injEq, Ar.bag.injEq, D.lst.injEq, D.tup.injEq, D.int.injEq, D.str.injEq, D.bl.injEq, ints_inj, strs_inj, and_true, true_and] at h
  (obtain ⟨rfl, rfl, rfl⟩ := h)
  exact q), fun q => ⟨_, _, _, rfl, q⟩⟩

section
variable {P : Program} {w : World} {K : Fg} {mg : Str → Option Value} {base : Heap} {g : Gd}
theorem sc__law_window : FnScope ["_law_symbols_here", "_law_start", "_law_length"] ["_law_symbols_here", "_law_start", "_law_length"] (defScope s__law_window) := ⟨rfl, rfl, rfl, by decide +kernel, rfl, by decide +kernel, by decide +kernel⟩
theorem fn__law_window (T : Tx K mg) : ∃ fd, FnG P w K mg base 2 (He.ga K "_law_window") fd ["_law_symbols_here", "_law_start", "_law_length"] (spQ K mg g sp__law_window) ∧ FunD K "_law_window" "_law_window" (defArgs s__law_window) (defBody s__law_window) (defScope s__law_window) [] [] (He.ga K "_law_window") fd := by
  have sc := sc__law_window
  have C__law_distances : Cal P w K mg base g 1 "_law_distances" [] sp__law_distances := cal__law_distances T
  obtain ⟨fd, Fn⟩ := T.f__law_window
  refine ⟨fd, fn_q g Fn sc (by decide) (fun as k x h => ?_) fun cdv A outer s H E hgd hr => ?_, Fn⟩
  · unfold sp__law_window at h; first | (split at h <;> first | rfl | exact h.elim) | (obtain ⟨_, rfl, _⟩ := h; rfl) | (obtain ⟨_, _, rfl, _⟩ := h; rfl) | (obtain ⟨_, _, _, rfl, _⟩ := h; rfl) | (obtain ⟨_, _, _, _, rfl, _⟩ := h; rfl) | (obtain ⟨_, _, _, _, _, rfl, _⟩ := h; rfl) | (obtain ⟨_, _, _, _, _, _, rfl, _⟩ := h; rfl)
  · have tk : Takes (cxOf (L2.CX P w) P w K mg base ["_law_symbols_here", "_law_start", "_law_length"] "_law_window" (defScope s__law_window) (He.ga K "_law_window") cdv A outer s H E) (fun cls d _ H => E cls d H) := takes_of rfl rfl rfl rfl
    refine ⟨_, _, (qs_one (qs_retN (qn_call [.bor] C__law_distances (by exact hgd) (by exact hr) (by omega) (by exact rfl) (qa_cons (QN.qe (qn_sl sl_Q o_sl (q_var 0) (qo_some (q_var 1)) (qo_some (QN.qe (qn_opR or_addQ o_add (q_var 1) (q_var 2)))))) qa_nil (by rfl)) (by decide) (by rfl) (by rfl)))), fun as k x h => ?_⟩
    clear tk hr hgd Fn sc T
    obtain ⟨w, s, m, rfl, ⟨h0, h1, h2⟩, h⟩ := h
    walk_at "q"
    rw [cut_win h0 h1, int_drop, int_take]
    walk_at "q"
    exact ⟨by simp only [List.length_take, List.length_drop]; omega, h⟩
theorem cal__law_window (T : Tx K mg) : Cal P w K mg base g 2 "_law_window" [] sp__law_window := by
  obtain ⟨fd, G, Fn⟩ := fn__law_window (P := P) (w := w) (base := base) (g := g) T
  exact ⟨_, fd, _, [], G, T.g__law_window, Fn.kp, Fn.bindsN fun _ _ _ _ _ _ us hl => match us, hl with | [_, _, _], _ => rfl, .nil, rfl⟩
end

local macro_rules | `(tactic| walk_at "p") => `(tactic| (repeat (rw [pkV]; try walk_at "q")))
local macro_rules | `(tactic| walk_at "len") => `(tactic| (first | omega | (simp only [List.length_map, List.length_append, List.length_reverse, List.length_take, List.length_drop, List.length_dropLast, List.length_cons, List.length_nil, List.length_set, List.length_replicate, dist_length, nxt_length, idsD_length, numbered_length, ranged_length, upto_length]; omega)))
local macro_rules | `(tactic| walk_at "q") => `(tactic| (try simp only [↓hold1, ↓hold2, ↓cIf_t, ↓cIf_f, ↓lk0, ↓lk1, ↓st0, ↓st1, ↓wp0, ↓wp1, ↓wpm, ↓wpn, ↓sD_sh, ↓sD_own, ↓sD_bor, ↓rd_d, ↓rd_p, ↓dB_b, ↓dI_i, ↓dX_x, ↓dK_i, ↓dK_s, ↓dL_l, ↓dIt_l, ↓dIt_t, ↓dIt_s, ↓shS_sh, ↓shS_own, ↓shS_bor, ↓sh1_d, ↓sh1_p, ↓shs0, ↓shs1, ↓ress0, ↓ress1, ↓bagS_b, ↓arg_bor, ↓arg_sh, ↓arg_bag, ↓args0, ↓args1, ↓ap0, ↓ap0', ↓ap1, ↓reS_sh, ↓reS_own, ↓reS_bor, ↓ret_d, ↓ret_p, ↓asS_sh, ↓asS_own, ↓asS_bor, ↓as_d, ↓as_p, ↓rv_sh, ↓rv_own, ↓da_sh, ↓da_own, ↓itS_sh, ↓itS_own, ↓itS_bor, ↓it_d, ↓it_p, ↓e_var, ↓e_sh, ↓e_own, ↓e_bor, ↓e_bag, ↓e_c, ↓e_op, ↓e_opR, ↓e_test, ↓e_and, ↓e_or, ↓e_not, ↓e_andV, ↓e_orV, ↓e_notV, ↓e_ifE, ↓e_nil, ↓e_cons, ↓e_cb, ↓e_cbR, ↓e_ofN, ↓e_lst, ↓e_tup, ↓e_call, ↓e_callS, ↓e_next, ↓e_seq, ↓e_drop, ↓e_ret, ↓e_retN, ↓e_if, ↓e_set, ↓e_setN, ↓e_raise, ↓e_name, ↓e_gnil, ↓e_gcons, ↓e_gtup, ↓e_for, ↓e_seqI, ↓e_enum, ↓rg1_i, ↓rg2_i, ↓e_rng1, ↓e_rng2, ↓e_lc, ↓e_yes, ↓e_onone, ↓e_osome, ↓e_sl, ↓e_isi, ↓e_isi2, ↓ownL_l, ↓ownA_l, ↓sO_o, ↓e_meth, ↓e_dnew, ↓e_dput, ↓e_lput, ↓e_lenSet, ↓e_chain, ↓e_asgT, ↓e_toN, ↓e_parN, ↓e_getD, ↓f_inC, ↓f_inI, ↓f_inIT, ↓f_inS, ↓pkC0, ↓pkC_sh, ↓pkC_own, ↓pkC_bor, ↓pkC_bag, ↓pkC_no, ↓f_ix0, ↓f_ix1, ↓f_ix2, ↓f_ix3, ↓f_ix4, ↓f_ixT0, ↓f_ixT1, ↓f_ixT2, ↓f_ixT3, ↓f_ixT4, ↓e_loopC, ↓e_loopN, ↓e_step, ↓e_exI, ↓e_toI, ↓f_eqW1, ↓f_eqW2, ↓f_eqW3, ↓f_sortI, ↓f_eqNN, ↓f_notScrL, ↓f_notScrT, ↓f_eqSL, ↓f_neSL, ↓f_eqSNil, ↓f_neSNil, ↓f_neNN, ↓e_lstRg1, ↓e_ifN, ↓e_ixl0, ↓e_ixl1, ↓e_ixl2, ↓e_ixl3, ↓e_ixt0, ↓e_ixt1, ↓e_ixt2, ↓e_ixt3, ↓f_inT2S, ↓f_eqNl, ↓e_isEx, ↓f_nonE, ↓f_empC, ↓f_empN, ↓e_dObj, ↓e_lkHit, ↓e_pfHit, ↓e_pfNil, ↓e_fld, ↓e_fput, ↓e_startM, ↓e_mnx, ↓e_mrt, ↓e_mex, ↓e_npN, ↓e_npD, ↓e_npB, ↓e_npP, ↓e_callM, ↓e_callR, ↓e_make, ↓e_ty_int_T, ↓e_ty_int_O, ↓e_ty_bool_T, ↓e_ty_bool_O, ↓e_ty_str_T, ↓e_ty_str_O, ↓e_ty_list_T, ↓e_ty_list_O, ↓e_ty_tuple_T, ↓e_ty_tuple_O, ↓e_ty_dict_T, ↓e_ty_dict_O, ↓e_gunl, ↓f_sortITl, ↓f_sortITt, ↓e_tryC, ↓f_sub, ↓f_mod, ↓f_div, ↓f_divW, ↓f_pow, ↓f_lt, ↓f_le, ↓f_gt, ↓f_ge, ↓f_addI, ↓f_addS, ↓f_addL, ↓f_mulI, ↓f_mulL, ↓f_eqI, ↓f_neI, ↓f_eqS, ↓f_neS, ↓f_eqB, ↓f_neB, ↓f_isN, ↓f_isNotN, ↓f_lenL, ↓f_lenT, ↓f_lenR, ↓f_lenS, ↓f_min, ↓f_max, ↓f_abs, ↓f_intI, ↓f_intB, ↓f_listL, ↓f_listT, ↓f_listS, ↓f_tupL, ↓f_slL, ↓f_slR, ↓f_slT, ↓f_app, ↓f_ext, ↓f_allM, ↓f_anyM, ↓f_eqIL, ↓f_neIL, ↓f_eqIT, ↓f_neIT, ↓f_eqNil, ↓f_neNil, ↓e_is_integer_distances, ↓e_is_integer_distancesN, ↓e_is_sequence_distances, ↓e_is_distances, ↓e_is_integer_facts, ↓e_is_sequence_facts, ↓e_check_size, ↓e_are_two_positions, ↓e_is_fact_of, ↓e_check_positions, ↓e_distances_by, ↓e_linked_offsets, ↓e_representatives, ↓e_window_symbols, ↓e_states_different, ↓e__law_draw, ↓e__law_symbols, ↓e__law_distances, ↓e__law_window, ty_int_n, ty_int_b, ty_int_i, ty_int_s, ty_int_l, ty_int_t, ty_int_r, ty_int_d, ty_int_e, ty_bool_n, ty_bool_b, ty_bool_i, ty_bool_s, ty_bool_l, ty_bool_t, ty_bool_r, ty_bool_d, ty_bool_e, ty_str_n, ty_str_b, ty_str_i, ty_str_s, ty_str_l, ty_str_t, ty_str_r, ty_str_d, ty_str_e, ty_list_n, ty_list_b, ty_list_i, ty_list_s, ty_list_l, ty_list_t, ty_list_r, ty_list_d, ty_list_e, ty_tuple_n, ty_tuple_b, ty_tuple_i, ty_tuple_s, ty_tuple_l, ty_tuple_t, ty_tuple_r, ty_tuple_d, ty_tuple_e, ty_dict_n, ty_dict_b, ty_dict_i, ty_dict_s, ty_dict_l, ty_dict_t, ty_dict_r, ty_dict_d, ty_dict_e, cIf_t, cIf_f, cIf_n, isSc_n, isSc_b, isSc_i, isSc_s, ex_some, Int.reduceLT, Int.reduceLE, Int.reduceGT, Int.reduceGE, Int.reduceEq, Int.reduceNe, Int.reduceAdd, Int.reduceSub, Int.reduceMul, Int.reduceNeg, Int.reduceToNat, Int.reducePow, Nat.reduceLT, Nat.reduceAdd, Nat.reduceSub, Nat.reduceLeDiff, Nat.reduceEqDiff, Nat.reduceMul, Int.cast_ofNat_Int, true_or, true_and, and_true, List.length_cons, List.length_nil, List.length_map, n_n, n_b, n_i, n_s, n_l, n_t, se_c, se_n, se_0, ar_b, ar_s, ar_g, Bool.or_true, Bool.true_or, Bool.or_false, Bool.false_or, Bool.and_true, Bool.true_and, Bool.and_false, Bool.false_and, Bool.not_true, Bool.not_false, Bool.not_not, decide_true, decide_false, int_app, filter_tt, eq_self, Option.map_some, Option.map_none, Option.isSome_some, Option.isSome_none, Bool.false_eq_true, if_false, if_true, Nat.zero_add, Int.zero_add, Int.add_zero, Int.sub_zero, List.map_nil, List.nil_append, List.append_nil, int_rev, int_take, int_drop, int_dropLast, int_appL, e_toI, e_is_integer_distances, e_is_integer_distancesN, e_is_sequence_distances, e_is_distances, e_is_integer_facts, e_is_sequence_facts, e_check_size, e_are_two_positions, e_is_fact_of, e_check_positions, e_distances_by, e_linked_offsets, e_representatives, e_window_symbols, e_states_different, e__law_draw, e__law_symbols, e__law_distances, e__law_window]))

/-! ### _law_fact -/

def sp__law_fact : Spq := fun as k x => ∃ (w : List Int), as = [.bag 0, .bor (.lst (w.map .int))] ∧ ((1 ≤ w.length ∧ w.length ≤ 60) ∧ (∀ (f : Fc) (ps : List D), FcP f ps → WinL ps → FcOk w.length f → k (.sh (.tup ps))))
theorem e__law_fact {w : List Int} {k : Rv → Prop} {x : Str → List D → Prop} : sp__law_fact [.bag 0, .bor (.lst (w.map .int))] k x = ((1 ≤ w.length ∧ w.length ≤ 60) ∧ (∀ (f : Fc) (ps : List D), FcP f ps → WinL ps → FcOk w.length f → k (.sh (.tup ps)))) := propext ⟨fun h => (by
  obtain ⟨w2, h, q⟩ := h
  simp only [List.cons.injEq, Ar.bor.injEq, Ar.sh.injEq, Ar.bag.injEq, D.lst.injEq, D.tup.injEq, D.int.injEq, D.str.injEq, D.bl.injEq, ints_inj, strs_inj, and_true, true_and] at h
  subst h
  exact q), fun q => ⟨_, rfl, q⟩⟩

section
variable {P : Program} {w : World} {K : Fg} {mg : Str → Option Value} {base : Heap}
theorem sc__law_fact : FnScope ["_law_spring_here", "_law_symbols_here", "_law_size", "_law_way", "_law_length", "_law_one", "_law_other", "_law_most", "_law_longer"] ["_law_spring_here", "_law_symbols_here"] (defScope s__law_fact) := ⟨rfl, rfl, rfl, by decide +kernel, rfl, by decide +kernel, by decide +kernel⟩
theorem fn__law_fact (T : Tx K mg) : ∃ fd, FnG P w K mg base 3 (He.ga K "_law_fact") fd ["_law_spring_here", "_law_symbols_here"] (spQ K mg sprG sp__law_fact) ∧ FunD K "_law_fact" "_law_fact" (defArgs s__law_fact) (defBody s__law_fact) (defScope s__law_fact) [] [] (He.ga K "_law_fact") fd := by
  have sc := sc__law_fact
  have C__law_draw : Cal P w K mg base sprG 1 "_law_draw" [] sp__law_draw := cal__law_draw T
  have C__law_window : Cal P w K mg base sprG 2 "_law_window" [] sp__law_window := cal__law_window T
  obtain ⟨fd, Fn⟩ := T.f__law_fact
  refine ⟨fd, fn_q sprG Fn sc (by decide) (fun as k x h => ?_) fun cdv A outer s H E hgd hr => ?_, Fn⟩
  · unfold sp__law_fact at h; first | (split at h <;> first | rfl | exact h.elim) | (obtain ⟨_, rfl, _⟩ := h; rfl) | (obtain ⟨_, _, rfl, _⟩ := h; rfl) | (obtain ⟨_, _, _, rfl, _⟩ := h; rfl) | (obtain ⟨_, _, _, _, rfl, _⟩ := h; rfl) | (obtain ⟨_, _, _, _, _, rfl, _⟩ := h; rfl) | (obtain ⟨_, _, _, _, _, _, rfl, _⟩ := h; rfl)
  · have tk : Takes (cxOf (L2.CX P w) P w K mg base ["_law_spring_here", "_law_symbols_here", "_law_size", "_law_way", "_law_length", "_law_one", "_law_other", "_law_most", "_law_longer"] "_law_fact" (defScope s__law_fact) (He.ga K "_law_fact") cdv A outer s H E) (fun cls d _ H => E cls d H) := takes_of rfl rfl rfl rfl
    refine ⟨_, _, (qs_cons (qs_set (i := 2) (by exact sc.nd) (by exact rfl) (Or.inl rfl) (q_callB call_len c_len (by exact rfl) T.z_len (by decide +kernel) (qa_cons (q_var 1) qa_nil (by rfl)) (by decide) (by decide) (by rfl) (by rfl)) (by rfl) (by first | exact .inl rfl | exact .inr rfl | assumption))
      (qs_cons (qs_parN (i := 5) (j := 6) (by exact rfl) (by exact sc.nd) (by exact rfl) (by exact rfl) (by decide) (by exact rfl) (by exact rfl) (qn_call [.bag 0, .bor] C__law_draw (by exact hgd) (by exact hr) (by omega) (by exact rfl) (qa_cons (q_var 0) (qa_cons (q_var 2) qa_nil (by rfl)) (by rfl)) (by decide) (by rfl) (by rfl)) (qn_call [.bag 0, .bor] C__law_draw (by exact hgd) (by exact hr) (by omega) (by exact rfl) (qa_cons (q_var 0) (qa_cons (q_var 2) qa_nil (by rfl)) (by rfl)) (by decide) (by rfl) (by rfl)) (by first | rfl | kernel_rfl) (by rfl) (by rfl) (by rfl))
      (qs_cons (qs_setN (i := 3) (by exact sc.nd) (by exact rfl) (Or.inl rfl) (qn_call [.bag 0, .bor] C__law_draw (by exact hgd) (by exact hr) (by omega) (by exact rfl) (qa_cons (q_var 0) (qa_cons q_int qa_nil (by rfl)) (by rfl)) (by decide) (by rfl) (by rfl)) (by rfl) (by first | exact .inl rfl | exact .inr rfl | assumption))
      (qs_cons (qs_if (QW.toT (qw_and (qt_cmp op_lt o_lt (q_var 3) q_int (by first | exact nomark _ | rfl)) (qw_and1 (qt_cmp (or_neQ (by exact hr.units)) o_ne (q_var 5) (q_var 6) (by first | exact nomark _ | rfl))))) (qs_one (qs_ret (q_tup (qa_cons (q_ix ix_Q o_ix (QN.qe (qn_lst (qa_cons q_str (qa_cons q_str qa_nil (by rfl)) (by rfl)))) (q_callTy call_int1 c_int (by exact rfl) T.z_int (by decide +kernel) (qa_cons (q_cmp (or_eqQ (by exact hr.units)) o_eq (q_ix ix_Q o_ix (q_var 1) (q_var 5) (by exact fun _ _ => rfl)) (q_ix ix_Q o_ix (q_var 1) (q_var 6) (by exact fun _ _ => rfl)) (by first | exact nomark _ | rfl)) qa_nil (by rfl)) (by decide) (by decide) (by rfl) (by rfl)) (by exact fun _ _ => rfl)) (qa_cons (q_var 5) (qa_cons (q_var 6) qa_nil (by rfl)) (by rfl)) (by rfl))))) qs_nil)
      (qs_cons (qs_if (QW.toT (qw_and (qt_cmp op_lt o_lt (q_var 3) q_int (by first | exact nomark _ | rfl)) (qw_and1 (qt_cmp (or_neQ (by exact hr.units)) o_ne (q_var 5) (q_var 6) (by first | exact nomark _ | rfl))))) (qs_cons (qs_set (i := 4) (by exact sc.nd) (by exact rfl) (Or.inl rfl) q_int (by rfl) (by first | exact .inl rfl | exact .inr rfl | assumption))
      (qs_cons (qs_set (i := 7) (by exact sc.nd) (by exact rfl) (Or.inl rfl) (q_op op_sub o_sub (q_var 2) (q_callB (call_max2 (by exact rfl)) c_max (by exact rfl) T.z_max (by decide +kernel) (qa_cons (q_var 5) (qa_cons (q_var 6) qa_nil (by rfl)) (by rfl)) (by decide) (by decide) (by rfl) (by rfl))) (by rfl) (by first | exact .inl rfl | exact .inr rfl | assumption))
      (qs_cons (qs_for [8] (qi_range2 (by exact rfl) T.z_range (qa_cons q_int (qa_cons (QN.qe (qn_opR or_addQ o_add (q_var 7) q_int)) qa_nil (by rfl)) (by rfl)) (by rfl) (by rfl)) (qg_name (i := 8) (by exact sc.nd) (by exact rfl) (by first | exact Or.inl rfl | exact Or.inr rfl) (by decide) (by first | exact .inl rfl | exact .inr rfl | assumption))
      (qs_one (qs_if (qt_cmp (or_eqQ (by exact hr.units)) o_eq (QN.qe (qn_call [.bor, .bor, .bor] C__law_window (by exact hgd) (by exact hr) (by omega) (by exact rfl) (qa_cons (q_var 1) (qa_cons (q_var 5) (qa_cons (q_var 8) qa_nil (by rfl)) (by rfl)) (by rfl)) (by decide) (by rfl) (by rfl))) (QN.qe (qn_call [.bor, .bor, .bor] C__law_window (by exact hgd) (by exact hr) (by omega) (by exact rfl) (qa_cons (q_var 1) (qa_cons (q_var 6) (qa_cons (q_var 8) qa_nil (by rfl)) (by rfl)) (by rfl)) (by decide) (by rfl) (by rfl))) (by first | exact nomark _ | rfl)) (qs_one (qs_set (i := 4) (by exact sc.nd) (by exact rfl) (Or.inl rfl) (q_var 8) (by rfl) (by first | exact .inl rfl | exact .inr rfl | assumption))) qs_nil)) (passes_of (by exact rfl)) (by rfl) (by intro _; rfl))
      (qs_cons (qs_if (qt_cmp (or_eqQ (by exact hr.units)) o_eq (QN.qe (qn_call [.bag 0, .bor] C__law_draw (by exact hgd) (by exact hr) (by omega) (by exact rfl) (qa_cons (q_var 0) (qa_cons q_int qa_nil (by rfl)) (by rfl)) (by decide) (by rfl) (by rfl))) q_int (by first | exact nomark _ | rfl)) (qs_one (qs_setN (i := 4) (by exact sc.nd) (by exact rfl) (Or.inl rfl) (qn_opR or_addQ o_add q_int (QN.qe (qn_call [.bag 0, .bor] C__law_draw (by exact hgd) (by exact hr) (by omega) (by exact rfl) (qa_cons (q_var 0) (qa_cons (q_var 4) qa_nil (by rfl)) (by rfl)) (by decide) (by rfl) (by rfl)))) (by rfl) (by first | exact .inl rfl | exact .inr rfl | assumption))) qs_nil)
      (qs_one (qs_ret (q_tup (qa_cons q_str (qa_cons (q_var 5) (qa_cons (q_var 6) (qa_cons (q_var 4) qa_nil (by rfl)) (by rfl)) (by rfl)) (by rfl))))))))) qs_nil)
      (qs_cons (qs_setN (i := 4) (by exact sc.nd) (by exact rfl) (Or.inl rfl) (qn_opR or_addQ o_add q_int (QN.qe (qn_call [.bag 0, .bor] C__law_draw (by exact hgd) (by exact hr) (by omega) (by exact rfl) (qa_cons (q_var 0) (qa_cons (q_ix ix_Q o_ix (QN.qe (qn_lst (qa_cons (q_op op_sub o_sub (q_var 2) (q_var 5)) (qa_cons (q_callB (call_min2 (by exact rfl)) c_min (by exact rfl) T.z_min (by decide +kernel) (qa_cons q_int (qa_cons (q_op op_sub o_sub (q_var 2) (q_var 5)) qa_nil (by rfl)) (by rfl)) (by decide) (by decide) (by rfl) (by rfl)) qa_nil (by rfl)) (by rfl)))) (q_callB (call_min2 (by exact rfl)) c_min (by exact rfl) T.z_min (by decide +kernel) (qa_cons q_int (qa_cons (QN.qe (qn_call [.bag 0, .bor] C__law_draw (by exact hgd) (by exact hr) (by omega) (by exact rfl) (qa_cons (q_var 0) (qa_cons q_int qa_nil (by rfl)) (by rfl)) (by decide) (by rfl) (by rfl))) qa_nil (by rfl)) (by rfl)) (by decide) (by decide) (by rfl) (by rfl)) (by exact fun _ _ => rfl)) qa_nil (by rfl)) (by rfl)) (by decide) (by rfl) (by rfl)))) (by rfl) (by first | exact .inl rfl | exact .inr rfl | assumption))
      (qs_one (qs_ret (q_tup (qa_cons q_str (qa_cons (q_var 5) (qa_cons (QN.qe (qn_call [.bor, .bor, .bor] C__law_window (by exact hgd) (by exact hr) (by omega) (by exact rfl) (qa_cons (q_var 1) (qa_cons (q_var 5) (qa_cons (q_var 4) qa_nil (by rfl)) (by rfl)) (by rfl)) (by decide) (by rfl) (by rfl))) qa_nil (by rfl)) (by rfl)) (by rfl))))))))))), fun as k x h => ?_⟩
    clear tk hr hgd Fn sc T
    obtain ⟨w, rfl, ⟨h1, h2⟩, h⟩ := h
    walk_at "q"
    refine ⟨⟨by omega, by omega⟩, fun one o0 o1 => ⟨⟨by omega, by omega⟩, fun oth p0 p1 => fun way w0 w1 => ?_⟩⟩
    rw [List.length_map]
    have fw : ∀ l : Int, 1 ≤ l → one + l ≤ w.length → k (.sh (.tup [.str (Str.ofString "window"), .int one, .lst ((dist ((w.drop one.toNat).take l.toNat)).map .int)])) := fun l l0 l1 => by
      obtain ⟨o, rfl⟩ := Int.eq_ofNat_of_zero_le o0
      obtain ⟨l, rfl⟩ := Int.eq_ofNat_of_zero_le (show (0 : Int) ≤ l by omega)
      rw [Int.toNat_natCast, Int.toNat_natCast]
      have sl := segN_len (L := w) (s := o) (l := l) (by omega)
      exact h (.win o (segN w o l)) _ .winL (winl_no rfl) ⟨by omega, by omega⟩
    have fs : one ≠ oth → k (.sh (.tup [.str (Str.ofString "same"), .int one, .int oth])) ∧ k (.sh (.tup [.str (Str.ofString "different"), .int one, .int oth])) := fun ne => by
      obtain ⟨o, rfl⟩ := Int.eq_ofNat_of_zero_le o0
      obtain ⟨p, rfl⟩ := Int.eq_ofNat_of_zero_le p0
      exact ⟨h (.same o p) _ .same (winl_i rfl) ⟨by omega, by omega, by omega⟩, h (.diff o p) _ .diff (winl_i rfl) ⟨by omega, by omega, by omega⟩⟩
    have fe : ∀ l : Int, one ≠ oth → 1 ≤ l → one + l ≤ w.length → oth + l ≤ w.length → k (.sh (.tup [.str (Str.ofString "equivalent"), .int one, .int oth, .int l])) := fun l ne l0 l1 l2 => by
      obtain ⟨o, rfl⟩ := Int.eq_ofNat_of_zero_le o0
      obtain ⟨p, rfl⟩ := Int.eq_ofNat_of_zero_le p0
      obtain ⟨l, rfl⟩ := Int.eq_ofNat_of_zero_le (show (0 : Int) ≤ l by omega)
      exact h (.eqv o p l) _ .eqv winl_4 ⟨by omega, by omega, by omega, by omega⟩
    refine cIf_i (fun h3 => ?_) (fun h3 => ?_)
    · walk_at "q"
      refine cIf_i (fun e => ?_) (fun e => ?_)
      · walk_at "q"
        refine cIf_l (decide_eq_true (by omega)) ?_
        walk_at "q"
        refine cIf_l (decide_eq_true e) ?_
        walk_at "q"
        refine fun r r0 r1 => ix_pickI (fun v => 1 ≤ v ∧ v ≤ (w.length : Int) - one) (by split <;> omega) (by show _ < (2 : Int); split <;> omega) (fun d hd => ?_) fun v ⟨v0, v1⟩ => ?_
        · simp only [List.mem_cons, List.not_mem_nil, or_false] at hd
          rcases hd with rfl | rfl
          · exact ⟨_, rfl, by omega, by omega⟩
          · exact ⟨_, rfl, by split <;> omega, by split <;> omega⟩
        walk_at "q"
        refine ⟨⟨by omega, by omega⟩, fun l l0 l1 => ?_⟩
        refine ⟨⟨by omega, by omega, by omega⟩, ?_⟩
        walk_at "q"
        exact fw _ (by omega) (by omega)
      · walk_at "q"
        refine ix_ints o0 (by omega) fun a ha => ?_
        walk_at "q"
        refine ix_ints p0 (by omega) fun b hb => ?_
        walk_at "q"
        by_cases e2 : a = b
        · rw [decide_eq_true e2]
          walk_at "q"
          exact (fs e).1
        · rw [decide_eq_false e2]
          walk_at "q"
          exact (fs e).2
    · walk_at "q"
      refine cIf_i (fun h4 => ?_) (fun h4 => ?_)
      · walk_at "q"
        refine cIf_i (fun e => ?_) (fun e => ?_)
        · walk_at "q"
          refine fun r r0 r1 => ix_pickI (fun v => 1 ≤ v ∧ v ≤ (w.length : Int) - one) (by split <;> omega) (by show _ < (2 : Int); split <;> omega) (fun d hd => ?_) fun v ⟨v0, v1⟩ => ?_
          · simp only [List.mem_cons, List.not_mem_nil, or_false] at hd
            rcases hd with rfl | rfl
            · exact ⟨_, rfl, by omega, by omega⟩
            · exact ⟨_, rfl, by split <;> omega, by split <;> omega⟩
          walk_at "q"
          refine ⟨⟨by omega, by omega⟩, fun l l0 l1 => ?_⟩
          refine ⟨⟨by omega, by omega, by omega⟩, ?_⟩
          walk_at "q"
          exact fw _ (by omega) (by omega)
        · walk_at "q"
          refine ⟨⟨by split <;> omega, by split <;> omega⟩, ?_⟩
          refine loopJ (fun m env => ∃ (l : Int) (s8 : Sl), env = [.bag 0, .bor (.lst (w.map .int)), .sh (.int w.length), .sh (.int way), .sh (.int l), .sh (.int one), .sh (.int oth), _, s8] ∧ 1 ≤ l ∧ one + l ≤ w.length ∧ oth + l ≤ w.length) ⟨1, _, rfl, by omega, by omega, by omega⟩ (fun m d env X hd hJ hX => ?_) fun env hJ => ?_
          · obtain ⟨l, s8, rfl, l0, l1, l2⟩ := hJ
            obtain ⟨hm, rfl⟩ := ranged_get hd
            walk_at "q"
            have hm2 : one + (2 + (m : Int)) ≤ w.length ∧ oth + (2 + (m : Int)) ≤ w.length := by split at hm <;> omega
            refine ⟨⟨by omega, by omega, by omega⟩, ⟨by omega, by omega, by omega⟩, cIf_i (fun e3 => ?_) (fun e3 => ?_)⟩
            · walk_at "q"
              exact hX _ ⟨_, _, rfl, by omega, by omega, by omega⟩
            · exact hX _ ⟨_, _, rfl, by omega, by omega, by omega⟩
          · obtain ⟨l, s8, rfl, l0, l1, l2⟩ := hJ
            walk_at "q"
            refine fun r r0 r1 => cIf_i (fun e3 => ?_) (fun e3 => ?_)
            · walk_at "q"
              refine ⟨⟨by omega, by omega⟩, fun r2 r20 r21 => ?_⟩
              exact fe _ e (by omega) (by omega) (by omega)
            · walk_at "q"
              exact fe _ e (by omega) (by omega) (by omega)
      · walk_at "q"
        refine fun r r0 r1 => ix_pickI (fun v => 1 ≤ v ∧ v ≤ (w.length : Int) - one) (by split <;> omega) (by show _ < (2 : Int); split <;> omega) (fun d hd => ?_) fun v ⟨v0, v1⟩ => ?_
        · simp only [List.mem_cons, List.not_mem_nil, or_false] at hd
          rcases hd with rfl | rfl
          · exact ⟨_, rfl, by omega, by omega⟩
          · exact ⟨_, rfl, by split <;> omega, by split <;> omega⟩
        walk_at "q"
        refine ⟨⟨by omega, by omega⟩, fun l l0 l1 => ?_⟩
        refine ⟨⟨by omega, by omega, by omega⟩, ?_⟩
        walk_at "q"
        exact fw _ (by omega) (by omega)
theorem cal__law_fact (T : Tx K mg) : Cal P w K mg base sprG 3 "_law_fact" [] sp__law_fact := by
  obtain ⟨fd, G, Fn⟩ := fn__law_fact (P := P) (w := w) (base := base) T
  exact ⟨_, fd, _, [], G, T.g__law_fact, Fn.kp, Fn.bindsN fun _ _ _ _ _ _ us hl => match us, hl with | [_, _], _ => rfl, .nil, rfl⟩
end

local macro_rules | `(tactic| walk_at "p") => `(tactic| (repeat (rw [pkV]; try walk_at "q")))
local macro_rules | `(tactic| walk_at "len") => `(tactic| (first | omega | (simp only [List.length_map, List.length_append, List.length_reverse, List.length_take, List.length_drop, List.length_dropLast, List.length_cons, List.length_nil, List.length_set, List.length_replicate, dist_length, nxt_length, idsD_length, numbered_length, ranged_length, upto_length]; omega)))
local macro_rules | `(tactic| walk_at "q") => `(tactic| (try simp only [↓hold1, ↓hold2, ↓cIf_t, ↓cIf_f, ↓lk0, ↓lk1, ↓st0, ↓st1, ↓wp0, ↓wp1, ↓wpm, ↓wpn, ↓sD_sh, ↓sD_own, ↓sD_bor, ↓rd_d, ↓rd_p, ↓dB_b, ↓dI_i, ↓dX_x, ↓dK_i, ↓dK_s, ↓dL_l, ↓dIt_l, ↓dIt_t, ↓dIt_s, ↓shS_sh, ↓shS_own, ↓shS_bor, ↓sh1_d, ↓sh1_p, ↓shs0, ↓shs1, ↓ress0, ↓ress1, ↓bagS_b, ↓arg_bor, ↓arg_sh, ↓arg_bag, ↓args0, ↓args1, ↓ap0, ↓ap0', ↓ap1, ↓reS_sh, ↓reS_own, ↓reS_bor, ↓ret_d, ↓ret_p, ↓asS_sh, ↓asS_own, ↓asS_bor, ↓as_d, ↓as_p, ↓rv_sh, ↓rv_own, ↓da_sh, ↓da_own, ↓itS_sh, ↓itS_own, ↓itS_bor, ↓it_d, ↓it_p, ↓e_var, ↓e_sh, ↓e_own, ↓e_bor, ↓e_bag, ↓e_c, ↓e_op, ↓e_opR, ↓e_test, ↓e_and, ↓e_or, ↓e_not, ↓e_andV, ↓e_orV, ↓e_notV, ↓e_ifE, ↓e_nil, ↓e_cons, ↓e_cb, ↓e_cbR, ↓e_ofN, ↓e_lst, ↓e_tup, ↓e_call, ↓e_callS, ↓e_next, ↓e_seq, ↓e_drop, ↓e_ret, ↓e_retN, ↓e_if, ↓e_set, ↓e_setN, ↓e_raise, ↓e_name, ↓e_gnil, ↓e_gcons, ↓e_gtup, ↓e_for, ↓e_seqI, ↓e_enum, ↓rg1_i, ↓rg2_i, ↓e_rng1, ↓e_rng2, ↓e_lc, ↓e_yes, ↓e_onone, ↓e_osome, ↓e_sl, ↓e_isi, ↓e_isi2, ↓ownL_l, ↓ownA_l, ↓sO_o, ↓e_meth, ↓e_dnew, ↓e_dput, ↓e_lput, ↓e_lenSet, ↓e_chain, ↓e_asgT, ↓e_toN, ↓e_parN, ↓e_getD, ↓f_inC, ↓f_inI, ↓f_inIT, ↓f_inS, ↓pkC0, ↓pkC_sh, ↓pkC_own, ↓pkC_bor, ↓pkC_bag, ↓pkC_no, ↓f_ix0, ↓f_ix1, ↓f_ix2, ↓f_ix3, ↓f_ix4, ↓f_ixT0, ↓f_ixT1, ↓f_ixT2, ↓f_ixT3, ↓f_ixT4, ↓e_loopC, ↓e_loopN, ↓e_step, ↓e_exI, ↓e_toI, ↓f_eqW1, ↓f_eqW2, ↓f_eqW3, ↓f_sortI, ↓f_eqNN, ↓f_notScrL, ↓f_notScrT, ↓f_eqSL, ↓f_neSL, ↓f_eqSNil, ↓f_neSNil, ↓f_neNN, ↓e_lstRg1, ↓e_ifN, ↓e_ixl0, ↓e_ixl1, ↓e_ixl2, ↓e_ixl3, ↓e_ixt0, ↓e_ixt1, ↓e_ixt2, ↓e_ixt3, ↓f_inT2S, ↓f_eqNl, ↓e_isEx, ↓f_nonE, ↓f_empC, ↓f_empN, ↓e_dObj, ↓e_lkHit, ↓e_pfHit, ↓e_pfNil, ↓e_fld, ↓e_fput, ↓e_startM, ↓e_mnx, ↓e_mrt, ↓e_mex, ↓e_npN, ↓e_npD, ↓e_npB, ↓e_npP, ↓e_callM, ↓e_callR, ↓e_make, ↓e_ty_int_T, ↓e_ty_int_O, ↓e_ty_bool_T, ↓e_ty_bool_O, ↓e_ty_str_T, ↓e_ty_str_O, ↓e_ty_list_T, ↓e_ty_list_O, ↓e_ty_tuple_T, ↓e_ty_tuple_O, ↓e_ty_dict_T, ↓e_ty_dict_O, ↓e_gunl, ↓f_sortITl, ↓f_sortITt, ↓e_tryC, ↓f_sub, ↓f_mod, ↓f_div, ↓f_divW, ↓f_pow, ↓f_lt, ↓f_le, ↓f_gt, ↓f_ge, ↓f_addI, ↓f_addS, ↓f_addL, ↓f_mulI, ↓f_mulL, ↓f_eqI, ↓f_neI, ↓f_eqS, ↓f_neS, ↓f_eqB, ↓f_neB, ↓f_isN, ↓f_isNotN, ↓f_lenL, ↓f_lenT, ↓f_lenR, ↓f_lenS, ↓f_min, ↓f_max, ↓f_abs, ↓f_intI, ↓f_intB, ↓f_listL, ↓f_listT, ↓f_listS, ↓f_tupL, ↓f_slL, ↓f_slR, ↓f_slT, ↓f_app, ↓f_ext, ↓f_allM, ↓f_anyM, ↓f_eqIL, ↓f_neIL, ↓f_eqIT, ↓f_neIT, ↓f_eqNil, ↓f_neNil, ↓e_is_integer_distances, ↓e_is_integer_distancesN, ↓e_is_sequence_distances, ↓e_is_distances, ↓e_is_integer_facts, ↓e_is_sequence_facts, ↓e_check_size, ↓e_are_two_positions, ↓e_is_fact_of, ↓e_check_positions, ↓e_distances_by, ↓e_linked_offsets, ↓e_representatives, ↓e_window_symbols, ↓e_states_different, ↓e__law_draw, ↓e__law_symbols, ↓e__law_distances, ↓e__law_window, ↓e__law_fact, ty_int_n, ty_int_b, ty_int_i, ty_int_s, ty_int_l, ty_int_t, ty_int_r, ty_int_d, ty_int_e, ty_bool_n, ty_bool_b, ty_bool_i, ty_bool_s, ty_bool_l, ty_bool_t, ty_bool_r, ty_bool_d, ty_bool_e, ty_str_n, ty_str_b, ty_str_i, ty_str_s, ty_str_l, ty_str_t, ty_str_r, ty_str_d, ty_str_e, ty_list_n, ty_list_b, ty_list_i, ty_list_s, ty_list_l, ty_list_t, ty_list_r, ty_list_d, ty_list_e, ty_tuple_n, ty_tuple_b, ty_tuple_i, ty_tuple_s, ty_tuple_l, ty_tuple_t, ty_tuple_r, ty_tuple_d, ty_tuple_e, ty_dict_n, ty_dict_b, ty_dict_i, ty_dict_s, ty_dict_l, ty_dict_t, ty_dict_r, ty_dict_d, ty_dict_e, cIf_t, cIf_f, cIf_n, isSc_n, isSc_b, isSc_i, isSc_s, ex_some, Int.reduceLT, Int.reduceLE, Int.reduceGT, Int.reduceGE, Int.reduceEq, Int.reduceNe, Int.reduceAdd, Int.reduceSub, Int.reduceMul, Int.reduceNeg, Int.reduceToNat, Int.reducePow, Nat.reduceLT, Nat.reduceAdd, Nat.reduceSub, Nat.reduceLeDiff, Nat.reduceEqDiff, Nat.reduceMul, Int.cast_ofNat_Int, true_or, true_and, and_true, List.length_cons, List.length_nil, List.length_map, n_n, n_b, n_i, n_s, n_l, n_t, se_c, se_n, se_0, ar_b, ar_s, ar_g, Bool.or_true, Bool.true_or, Bool.or_false, Bool.false_or, Bool.and_true, Bool.true_and, Bool.and_false, Bool.false_and, Bool.not_true, Bool.not_false, Bool.not_not, decide_true, decide_false, int_app, filter_tt, eq_self, Option.map_some, Option.map_none, Option.isSome_some, Option.isSome_none, Bool.false_eq_true, if_false, if_true, Nat.zero_add, Int.zero_add, Int.add_zero, Int.sub_zero, List.map_nil, List.nil_append, List.append_nil, int_rev, int_take, int_drop, int_dropLast, int_appL, e_toI, e_is_integer_distances, e_is_integer_distancesN, e_is_sequence_distances, e_is_distances, e_is_integer_facts, e_is_sequence_facts, e_check_size, e_are_two_positions, e_is_fact_of, e_check_positions, e_distances_by, e_linked_offsets, e_representatives, e_window_symbols, e_states_different, e__law_draw, e__law_symbols, e__law_distances, e__law_window, e__law_fact]))

/-! ### _law_facts -/

def sp__law_facts : Spq := fun as k x => ∃ (w : List Int) (m : Int), as = [.bag 0, .bor (.lst (w.map .int)), .bor (.int m)] ∧ (((1 ≤ w.length ∧ w.length ≤ 60) ∧ 0 ≤ m ∧ m ≤ 40) ∧ (∀ (fc : List Fc) (ds : List D), FcsAt fc ds → (∀ d ∈ ds, ∃ ps, d = .tup ps ∧ WinL ps) → (∀ f ∈ fc, FcOk w.length f) → ds.length ≤ m → k (.own (.lst ds))))
theorem e__law_facts {w : List Int} {m : Int} {k : Rv → Prop} {x : Str → List D → Prop} : sp__law_facts [.bag 0, .bor (.lst (w.map .int)), .bor (.int m)] k x = (((1 ≤ w.length ∧ w.length ≤ 60) ∧ 0 ≤ m ∧ m ≤ 40) ∧ (∀ (fc : List Fc) (ds : List D), FcsAt fc ds → (∀ d ∈ ds, ∃ ps, d = .tup ps ∧ WinL ps) → (∀ f ∈ fc, FcOk w.length f) → ds.length ≤ m → k (.own (.lst ds)))) := propext ⟨fun h => (by
  obtain ⟨w2, m2, h, q⟩ := h
  simp only [List.cons.injEq, Ar.bor.injEq, Ar.sh.injEq, Ar.bag.injEq, D.lst.injEq, D.tup.injEq, D.int.injEq, D.str.injEq, D.bl.injEq, ints_inj, strs_inj, and_true, true_and] at h
  (obtain ⟨rfl, rfl⟩ := h)
  exact q), fun q => ⟨_, _, rfl, q⟩⟩

section
variable {P : Program} {w : World} {K : Fg} {mg : Str → Option Value} {base : Heap}
theorem sc__law_facts : FnScope ["_law_spring_here", "_law_symbols_here", "_law_most", "_law_found", "_law_false_too", "_law_turn", "_law_some", "_law_symbol"] ["_law_spring_here", "_law_symbols_here", "_law_most"] (defScope s__law_facts) := ⟨rfl, rfl, rfl, by decide +kernel, rfl, by decide +kernel, by decide +kernel⟩
theorem fn__law_facts (T : Tx K mg) : ∃ fd, FnG P w K mg base 4 (He.ga K "_law_facts") fd ["_law_spring_here", "_law_symbols_here", "_law_most"] (spQ K mg sprG sp__law_facts) ∧ FunD K "_law_facts" "_law_facts" (defArgs s__law_facts) (defBody s__law_facts) (defScope s__law_facts) [] [] (He.ga K "_law_facts") fd := by
  have sc := sc__law_facts
  have C__law_draw : Cal P w K mg base sprG 1 "_law_draw" [] sp__law_draw := cal__law_draw T
  have C__law_fact : Cal P w K mg base sprG 3 "_law_fact" [] sp__law_fact := cal__law_fact T
  obtain ⟨fd, Fn⟩ := T.f__law_facts
  refine ⟨fd, fn_q sprG Fn sc (by decide) (fun as k x h => ?_) fun cdv A outer s H E hgd hr => ?_, Fn⟩
  · unfold sp__law_facts at h; first | (split at h <;> first | rfl | exact h.elim) | (obtain ⟨_, rfl, _⟩ := h; rfl) | (obtain ⟨_, _, rfl, _⟩ := h; rfl) | (obtain ⟨_, _, _, rfl, _⟩ := h; rfl) | (obtain ⟨_, _, _, _, rfl, _⟩ := h; rfl) | (obtain ⟨_, _, _, _, _, rfl, _⟩ := h; rfl) | (obtain ⟨_, _, _, _, _, _, rfl, _⟩ := h; rfl)
  · have tk : Takes (cxOf (L2.CX P w) P w K mg base ["_law_spring_here", "_law_symbols_here", "_law_most", "_law_found", "_law_false_too", "_law_turn", "_law_some", "_law_symbol"] "_law_facts" (defScope s__law_facts) (He.ga K "_law_facts") cdv A outer s H E) (fun cls d _ H => E cls d H) := takes_of rfl rfl rfl rfl
    refine ⟨_, _, (qs_cons (qs_setN (i := 3) (by exact sc.nd) (by exact rfl) (Or.inl rfl) (qn_lst qa_nil) (by rfl) (by first | exact .inl rfl | exact .inr rfl | assumption))
      (qs_cons (qs_set (i := 4) (by exact sc.nd) (by exact rfl) (Or.inl rfl) (q_cmp (or_eqQ (by exact hr.units)) o_eq (QN.qe (qn_call [.bag 0, .bor] C__law_draw (by exact hgd) (by exact hr) (by omega) (by exact rfl) (qa_cons (q_var 0) (qa_cons q_int qa_nil (by rfl)) (by rfl)) (by decide) (by rfl) (by rfl))) q_int (by first | exact nomark _ | rfl)) (by rfl) (by first | exact .inl rfl | exact .inr rfl | assumption))
      (qs_cons (qs_for [5] (qi_range1 (by exact rfl) T.z_range (qa_cons (QN.qe (qn_call [.bag 0, .bor] C__law_draw (by exact hgd) (by exact hr) (by omega) (by exact rfl) (qa_cons (q_var 0) (qa_cons (QN.qe (qn_opR or_addQ o_add (q_var 2) q_int)) qa_nil (by rfl)) (by rfl)) (by decide) (by rfl) (by rfl))) qa_nil (by rfl)) (by rfl)) (qg_name (i := 5) (by exact sc.nd) (by exact rfl) (by first | exact Or.inl rfl | exact Or.inr rfl) (by decide) (by first | exact .inl rfl | exact .inr rfl | assumption))
      (qs_cons (qs_set (i := 6) (by exact sc.nd) (by exact rfl) (Or.inl rfl) (q_var 1) (by rfl) (by first | exact .inl rfl | exact .inr rfl | assumption))
      (qs_cons (qs_if (QW.toT (qw_and (qt_val (q_var 4) (by intro _; rfl)) (qw_and1 (qt_cmp (or_eqQ (by exact hr.units)) o_eq (QN.qe (qn_call [.bag 0, .bor] C__law_draw (by exact hgd) (by exact hr) (by omega) (by exact rfl) (qa_cons (q_var 0) (qa_cons q_int qa_nil (by rfl)) (by rfl)) (by decide) (by rfl) (by rfl))) q_int (by first | exact nomark _ | rfl))))) (qs_one (qs_setLcB (i := 6) [("_law_symbol", 7)] (by exact rfl) (by exact sc.nd) (by exact rfl) (by exact rfl) (sw_true (by exact rfl) (by exact rfl) (by exact rfl) (by decide +kernel)) (qi_seq (q_var 1)) (blkOk_by (by kernel_rfl)) (fun _ _ _ _ _ => (qg_name (i := 7) (by exact sc.nd) (by exact rfl) (by first | exact Or.inl rfl | exact Or.inr rfl) (by decide) (by first | exact .inl rfl | exact .inr rfl | assumption))) (fun _ _ _ _ _ => qts_nil) (fun _ _ _ _ _ => (QN.qe (qn_call [.bag 0, .bor] C__law_draw (by exact hgd) (by exact hr) (by omega) (by exact rfl) (qa_cons (q_var 0) (qa_cons q_int qa_nil (by rfl)) (by rfl)) (by decide) (by rfl) (by rfl)))) (by intro _; rfl) (by intros; rfl) (by intros; rfl) (by intros; rfl))) qs_nil)
      (qs_one (qs_expr (q_meth (i := 3) PySem.F.slot_list_append PySem.F.type_list_append mt_append m_append (by exact rfl) (by first | exact Or.inl rfl | exact Or.inr (Or.inl rfl) | exact Or.inr (Or.inr rfl)) (qa_cons (QN.qe (qn_call [.bag 0, .bor] C__law_fact (by exact hgd) (by exact hr) (by omega) (by exact rfl) (qa_cons (q_var 0) (qa_cons (q_var 6) qa_nil (by rfl)) (by rfl)) (by decide) (by rfl) (by rfl))) qa_nil (by rfl)) (by decide) (by decide) (by rfl) (by rfl) (by rfl) (by rfl) (by rfl)) (by rfl))))) (passes_of (by exact rfl)) (by rfl) (by intro _; rfl))
      (qs_one (qs_ret (q_var 3)))))), fun as k x h => ?_⟩
    clear tk hr hgd Fn sc T
    obtain ⟨w, m, rfl, ⟨⟨h1, h2⟩, m0, m1⟩, h⟩ := h
    walk_at "q"
    refine fun r r0 r1 => ⟨⟨by omega, by omega⟩, fun q q0 q1 => ⟨by omega, by omega, ?_⟩⟩
    refine loopJ (fun t env => ∃ (s5 s6 : Sl) (fc : List Fc) (ds : List D), env = [.bag 0, .bor (.lst (w.map .int)), .bor (.int m), .own (.lst ds), .sh (.bl (decide (r = 0))), s5, s6, .no] ∧ FcsAt fc ds ∧ (∀ d ∈ ds, ∃ ps, d = .tup ps ∧ WinL ps) ∧ (∀ f ∈ fc, FcOk w.length f) ∧ ds.length = t) ⟨_, _, [], [], rfl, .nil, by simp, by simp, rfl⟩ (fun t d env X hd hJ hX => ?_) fun env hJ => ?_
    rotate_left
    · obtain ⟨s5, s6, fc, ds, rfl, a1, a2, a3, a4⟩ := hJ
      rw [ranged_length] at a4
      walk_at "q"
      exact h fc ds a1 a2 a3 (by omega)
    obtain ⟨s5, s6, fc, ds, rfl, a1, a2, a3, a4⟩ := hJ
    obtain ⟨hm, rfl⟩ := ranged_get hd
    have step : ∀ (f : Fc) (ps : List D) (s5 s6 : Sl), FcP f ps → WinL ps → FcOk w.length f → X [.bag 0, .bor (.lst (w.map .int)), .bor (.int m), .own (.lst (ds ++ [.tup ps])), .sh (.bl (decide (r = 0))), s5, s6, .no] := fun f ps s5 s6 hf wl ok => by
      refine hX _ ⟨s5, s6, fc ++ [f], ds ++ [.tup ps], rfl, a1.append (.cons (.tup hf) .nil), fun d hd => ?_, fun g hg => ?_, by rw [List.length_append, a4]; rfl⟩
      · rcases List.mem_append.mp hd with hd | hd
        · exact a2 d hd
        · exact ⟨ps, List.mem_singleton.mp hd, wl⟩
      · rcases List.mem_append.mp hg with hg | hg
        · exact a3 g hg
        · rw [List.mem_singleton.mp hg]; exact ok
    walk_at "q"
    refine cIf_b (fun h3 => ?_) (fun h3 => ?_)
    rotate_left
    · walk_at "q"
      exact ⟨⟨h1, h2⟩, fun f ps hf wl ok => ⟨by omega, step f ps _ _ hf wl ok⟩⟩
    walk_at "q"
    refine fun e e0 e1 => cIf_b (fun h4 => ?_) (fun h4 => ?_)
    rotate_left
    · walk_at "q"
      exact ⟨⟨h1, h2⟩, fun f ps hf wl ok => ⟨by omega, step f ps _ _ hf wl ok⟩⟩
    walk_at "q"
    refine comp_rule (fun _ : Unit => [.bag 0, .bor (.lst (w.map .int)), .bor (.int m), .own (.lst ds), .sh (.bl (decide (r = 0))), .sh (.int t), .bor (.lst (w.map .int)), .no]) (fun i _ acc => ∃ u : List Int, acc = u.map .int ∧ u.length = i) () ⟨[], rfl, rfl⟩ (fun i d _ acc Y hd2 hI hY => ?_) fun _ acc hI => ?_
    · obtain ⟨u, rfl, hu⟩ := hI
      obtain ⟨z, hz, rfl⟩ := ints_get hd2
      have hi := (List.getElem?_eq_some_iff.mp hz).1
      unfold compStep
      walk_at "q"
      refine fun v v0 v1 => ⟨by omega, hY () _ ⟨u ++ [v], by simp, by simp [hu]⟩⟩
    obtain ⟨u, rfl, hu⟩ := hI
    rw [List.length_map] at hu
    walk_at "q"
    exact ⟨⟨by omega, by omega⟩, fun f ps hf wl ok => ⟨by omega, step f ps _ _ hf wl (by rw [← hu]; exact ok)⟩⟩
theorem cal__law_facts (T : Tx K mg) : Cal P w K mg base sprG 4 "_law_facts" [] sp__law_facts := by
  obtain ⟨fd, G, Fn⟩ := fn__law_facts (P := P) (w := w) (base := base) T
  exact ⟨_, fd, _, [], G, T.g__law_facts, Fn.kp, Fn.bindsN fun _ _ _ _ _ _ us hl => match us, hl with | [_, _, _], _ => rfl, .nil, rfl⟩
end

local macro_rules | `(tactic| walk_at "p") => `(tactic| (repeat (rw [pkV]; try walk_at "q")))
local macro_rules | `(tactic| walk_at "len") => `(tactic| (first | omega | (simp only [List.length_map, List.length_append, List.length_reverse, List.length_take, List.length_drop, List.length_dropLast, List.length_cons, List.length_nil, List.length_set, List.length_replicate, dist_length, nxt_length, idsD_length, numbered_length, ranged_length, upto_length]; omega)))
local macro_rules | `(tactic| walk_at "q") => `(tactic| (try simp only [↓hold1, ↓hold2, ↓cIf_t, ↓cIf_f, ↓lk0, ↓lk1, ↓st0, ↓st1, ↓wp0, ↓wp1, ↓wpm, ↓wpn, ↓sD_sh, ↓sD_own, ↓sD_bor, ↓rd_d, ↓rd_p, ↓dB_b, ↓dI_i, ↓dX_x, ↓dK_i, ↓dK_s, ↓dL_l, ↓dIt_l, ↓dIt_t, ↓dIt_s, ↓shS_sh, ↓shS_own, ↓shS_bor, ↓sh1_d, ↓sh1_p, ↓shs0, ↓shs1, ↓ress0, ↓ress1, ↓bagS_b, ↓arg_bor, ↓arg_sh, ↓arg_bag, ↓args0, ↓args1, ↓ap0, ↓ap0', ↓ap1, ↓reS_sh, ↓reS_own, ↓reS_bor, ↓ret_d, ↓ret_p, ↓asS_sh, ↓asS_own, ↓asS_bor, ↓as_d, ↓as_p, ↓rv_sh, ↓rv_own, ↓da_sh, ↓da_own, ↓itS_sh, ↓itS_own, ↓itS_bor, ↓it_d, ↓it_p, ↓e_var, ↓e_sh, ↓e_own, ↓e_bor, ↓e_bag, ↓e_c, ↓e_op, ↓e_opR, ↓e_test, ↓e_and, ↓e_or, ↓e_not, ↓e_andV, ↓e_orV, ↓e_notV, ↓e_ifE, ↓e_nil, ↓e_cons, ↓e_cb, ↓e_cbR, ↓e_ofN, ↓e_lst, ↓e_tup, ↓e_call, ↓e_callS, ↓e_next, ↓e_seq, ↓e_drop, ↓e_ret, ↓e_retN, ↓e_if, ↓e_set, ↓e_setN, ↓e_raise, ↓e_name, ↓e_gnil, ↓e_gcons, ↓e_gtup, ↓e_for, ↓e_seqI, ↓e_enum, ↓rg1_i, ↓rg2_i, ↓e_rng1, ↓e_rng2, ↓e_lc, ↓e_yes, ↓e_onone, ↓e_osome, ↓e_sl, ↓e_isi, ↓e_isi2, ↓ownL_l, ↓ownA_l, ↓sO_o, ↓e_meth, ↓e_dnew, ↓e_dput, ↓e_lput, ↓e_lenSet, ↓e_chain, ↓e_asgT, ↓e_toN, ↓e_parN, ↓e_getD, ↓f_inC, ↓f_inI, ↓f_inIT, ↓f_inS, ↓pkC0, ↓pkC_sh, ↓pkC_own, ↓pkC_bor, ↓pkC_bag, ↓pkC_no, ↓f_ix0, ↓f_ix1, ↓f_ix2, ↓f_ix3, ↓f_ix4, ↓f_ixT0, ↓f_ixT1, ↓f_ixT2, ↓f_ixT3, ↓f_ixT4, ↓e_loopC, ↓e_loopN, ↓e_step, ↓e_exI, ↓e_toI, ↓f_eqW1, ↓f_eqW2, ↓f_eqW3, ↓f_sortI, ↓f_eqNN, ↓f_notScrL, ↓f_notScrT, ↓f_eqSL, ↓f_neSL, ↓f_eqSNil, ↓f_neSNil, ↓f_neNN, ↓e_lstRg1, ↓e_ifN, ↓e_ixl0, ↓e_ixl1, ↓e_ixl2, ↓e_ixl3, ↓e_ixt0, ↓e_ixt1, ↓e_ixt2, ↓e_ixt3, ↓f_inT2S, ↓f_eqNl, ↓e_isEx, ↓f_nonE, ↓f_empC, ↓f_empN, ↓e_dObj, ↓e_lkHit, ↓e_pfHit, ↓e_pfNil, ↓e_fld, ↓e_fput, ↓e_startM, ↓e_mnx, ↓e_mrt, ↓e_mex, ↓e_npN, ↓e_npD, ↓e_npB, ↓e_npP, ↓e_callM, ↓e_callR, ↓e_make, ↓e_ty_int_T, ↓e_ty_int_O, ↓e_ty_bool_T, ↓e_ty_bool_O, ↓e_ty_str_T, ↓e_ty_str_O, ↓e_ty_list_T, ↓e_ty_list_O, ↓e_ty_tuple_T, ↓e_ty_tuple_O, ↓e_ty_dict_T, ↓e_ty_dict_O, ↓e_gunl, ↓f_sortITl, ↓f_sortITt, ↓e_tryC, ↓f_sub, ↓f_mod, ↓f_div, ↓f_divW, ↓f_pow, ↓f_lt, ↓f_le, ↓f_gt, ↓f_ge, ↓f_addI, ↓f_addS, ↓f_addL, ↓f_mulI, ↓f_mulL, ↓f_eqI, ↓f_neI, ↓f_eqS, ↓f_neS, ↓f_eqB, ↓f_neB, ↓f_isN, ↓f_isNotN, ↓f_lenL, ↓f_lenT, ↓f_lenR, ↓f_lenS, ↓f_min, ↓f_max, ↓f_abs, ↓f_intI, ↓f_intB, ↓f_listL, ↓f_listT, ↓f_listS, ↓f_tupL, ↓f_slL, ↓f_slR, ↓f_slT, ↓f_app, ↓f_ext, ↓f_allM, ↓f_anyM, ↓f_eqIL, ↓f_neIL, ↓f_eqIT, ↓f_neIT, ↓f_eqNil, ↓f_neNil, ↓e_is_integer_distances, ↓e_is_integer_distancesN, ↓e_is_sequence_distances, ↓e_is_distances, ↓e_is_integer_facts, ↓e_is_sequence_facts, ↓e_check_size, ↓e_are_two_positions, ↓e_is_fact_of, ↓e_check_positions, ↓e_distances_by, ↓e_linked_offsets, ↓e_representatives, ↓e_window_symbols, ↓e_states_different, ↓e__law_draw, ↓e__law_symbols, ↓e__law_distances, ↓e__law_window, ↓e__law_fact, ↓e__law_facts, ty_int_n, ty_int_b, ty_int_i, ty_int_s, ty_int_l, ty_int_t, ty_int_r, ty_int_d, ty_int_e, ty_bool_n, ty_bool_b, ty_bool_i, ty_bool_s, ty_bool_l, ty_bool_t, ty_bool_r, ty_bool_d, ty_bool_e, ty_str_n, ty_str_b, ty_str_i, ty_str_s, ty_str_l, ty_str_t, ty_str_r, ty_str_d, ty_str_e, ty_list_n, ty_list_b, ty_list_i, ty_list_s, ty_list_l, ty_list_t, ty_list_r, ty_list_d, ty_list_e, ty_tuple_n, ty_tuple_b, ty_tuple_i, ty_tuple_s, ty_tuple_l, ty_tuple_t, ty_tuple_r, ty_tuple_d, ty_tuple_e, ty_dict_n, ty_dict_b, ty_dict_i, ty_dict_s, ty_dict_l, ty_dict_t, ty_dict_r, ty_dict_d, ty_dict_e, cIf_t, cIf_f, cIf_n, isSc_n, isSc_b, isSc_i, isSc_s, ex_some, Int.reduceLT, Int.reduceLE, Int.reduceGT, Int.reduceGE, Int.reduceEq, Int.reduceNe, Int.reduceAdd, Int.reduceSub, Int.reduceMul, Int.reduceNeg, Int.reduceToNat, Int.reducePow, Nat.reduceLT, Nat.reduceAdd, Nat.reduceSub, Nat.reduceLeDiff, Nat.reduceEqDiff, Nat.reduceMul, Int.cast_ofNat_Int, true_or, true_and, and_true, List.length_cons, List.length_nil, List.length_map, n_n, n_b, n_i, n_s, n_l, n_t, se_c, se_n, se_0, ar_b, ar_s, ar_g, Bool.or_true, Bool.true_or, Bool.or_false, Bool.false_or, Bool.and_true, Bool.true_and, Bool.and_false, Bool.false_and, Bool.not_true, Bool.not_false, Bool.not_not, decide_true, decide_false, int_app, filter_tt, eq_self, Option.map_some, Option.map_none, Option.isSome_some, Option.isSome_none, Bool.false_eq_true, if_false, if_true, Nat.zero_add, Int.zero_add, Int.add_zero, Int.sub_zero, List.map_nil, List.nil_append, List.append_nil, int_rev, int_take, int_drop, int_dropLast, int_appL, e_toI, e_is_integer_distances, e_is_integer_distancesN, e_is_sequence_distances, e_is_distances, e_is_integer_facts, e_is_sequence_facts, e_check_size, e_are_two_positions, e_is_fact_of, e_check_positions, e_distances_by, e_linked_offsets, e_representatives, e_window_symbols, e_states_different, e__law_draw, e__law_symbols, e__law_distances, e__law_window, e__law_fact, e__law_facts]))

/-! ### _law_holds -/
def sp__law_holds : Spq := fun as k _ => ∃ (u : List Int) (f : Fc) (ps : List D), as = [.bor (.lst (u.map .int)), .bor (.tup ps)] ∧ (FcP f ps ∧ FcOk u.length f ∧ u.length ≤ 1000) ∧ ∀ r : Bool, (r = true ↔ Says u f) → k (.sh (.bl r))
section
variable {P : Program} {w : World} {K : Fg} {mg : Str → Option Value} {base : Heap} {g : Gd}
theorem sc__law_holds : FnScope ["_law_symbols_here", "_law_fact_here"] ["_law_symbols_here", "_law_fact_here"] (defScope s__law_holds) := ⟨rfl, rfl, rfl, by decide +kernel, rfl, by decide +kernel, by decide +kernel⟩
theorem fn__law_holds (T : Tx K mg) : ∃ fd, FnG P w K mg base 3 (He.ga K "_law_holds") fd ["_law_symbols_here", "_law_fact_here"] (spQ K mg g sp__law_holds) ∧ FunD K "_law_holds" "_law_holds" (defArgs s__law_holds) (defBody s__law_holds) (defScope s__law_holds) [] [] (He.ga K "_law_holds") fd := by
  have sc := sc__law_holds
  have C__law_window : Cal P w K mg base g 2 "_law_window" [] sp__law_window := cal__law_window T
  obtain ⟨fd, Fn⟩ := T.f__law_holds
  refine ⟨fd, fn_q g Fn sc (by decide) (fun as k x h => ?_) fun cdv A outer s H E hgd hr => ?_, Fn⟩
  · unfold sp__law_holds at h; first | (split at h <;> first | rfl | exact h.elim) | (obtain ⟨_, rfl, _⟩ := h; rfl) | (obtain ⟨_, _, rfl, _⟩ := h; rfl) | (obtain ⟨_, _, _, rfl, _⟩ := h; rfl) | (obtain ⟨_, _, _, _, rfl, _⟩ := h; rfl) | (obtain ⟨_, _, _, _, _, rfl, _⟩ := h; rfl) | (obtain ⟨_, _, _, _, _, _, rfl, _⟩ := h; rfl)
  · have tk : Takes (cxOf (L2.CX P w) P w K mg base ["_law_symbols_here", "_law_fact_here"] "_law_holds" (defScope s__law_holds) (He.ga K "_law_holds") cdv A outer s H E) (fun cls d _ H => E cls d H) := takes_of rfl rfl rfl rfl
    refine ⟨_, _, (qs_cons (qs_if (qt_cmp (or_eqQ (by exact hr.units)) o_eq (q_ix ix_Q o_ix (q_var 1) q_int (by exact fun _ _ => rfl)) q_str (by first | exact nomark _ | rfl)) (qs_one (qs_ret (q_cmp (or_eqQ (by exact hr.units)) o_eq (q_ix ix_Q o_ix (q_var 0) (q_ix ix_Q o_ix (q_var 1) q_int (by exact fun _ _ => rfl)) (by exact fun _ _ => rfl)) (q_ix ix_Q o_ix (q_var 0) (q_ix ix_Q o_ix (q_var 1) q_int (by exact fun _ _ => rfl)) (by exact fun _ _ => rfl)) (by first | exact nomark _ | rfl)))) qs_nil)
      (qs_cons (qs_if (qt_cmp (or_eqQ (by exact hr.units)) o_eq (q_ix ix_Q o_ix (q_var 1) q_int (by exact fun _ _ => rfl)) q_str (by first | exact nomark _ | rfl)) (qs_one (qs_ret (q_cmp (or_neQ (by exact hr.units)) o_ne (q_ix ix_Q o_ix (q_var 0) (q_ix ix_Q o_ix (q_var 1) q_int (by exact fun _ _ => rfl)) (by exact fun _ _ => rfl)) (q_ix ix_Q o_ix (q_var 0) (q_ix ix_Q o_ix (q_var 1) q_int (by exact fun _ _ => rfl)) (by exact fun _ _ => rfl)) (by first | exact nomark _ | rfl)))) qs_nil)
      (qs_cons (qs_if (qt_cmp (or_eqQ (by exact hr.units)) o_eq (q_ix ix_Q o_ix (q_var 1) q_int (by exact fun _ _ => rfl)) q_str (by first | exact nomark _ | rfl)) (qs_one (qs_ret (q_cmp (or_eqQ (by exact hr.units)) o_eq (QN.qe (qn_call [.bor, .bor, .bor] C__law_window (by exact hgd) (by exact hr) (by omega) (by exact rfl) (qa_cons (q_var 0) (qa_cons (q_ix ix_Q o_ix (q_var 1) q_int (by exact fun _ _ => rfl)) (qa_cons (q_callB call_len c_len (by exact rfl) T.z_len (by decide +kernel) (qa_cons (q_ix ix_Q o_ix (q_var 1) q_int (by exact fun _ _ => rfl)) qa_nil (by rfl)) (by decide) (by decide) (by rfl) (by rfl)) qa_nil (by rfl)) (by rfl)) (by rfl)) (by decide) (by rfl) (by rfl))) (QN.qe (qn_ty call_list_of c_list (by exact rfl) T.z_list (by decide +kernel) (qa_cons (q_ix ix_Q o_ix (q_var 1) q_int (by exact fun _ _ => rfl)) qa_nil (by rfl)) (by decide) (by decide) (by rfl) (by rfl))) (by first | exact nomark _ | rfl)))) qs_nil)
      (qs_one (qs_ret (q_cmp (or_eqQ (by exact hr.units)) o_eq (QN.qe (qn_call [.bor, .bor, .bor] C__law_window (by exact hgd) (by exact hr) (by omega) (by exact rfl) (qa_cons (q_var 0) (qa_cons (q_ix ix_Q o_ix (q_var 1) q_int (by exact fun _ _ => rfl)) (qa_cons (q_ix ix_Q o_ix (q_var 1) q_int (by exact fun _ _ => rfl)) qa_nil (by rfl)) (by rfl)) (by rfl)) (by decide) (by rfl) (by rfl))) (QN.qe (qn_call [.bor, .bor, .bor] C__law_window (by exact hgd) (by exact hr) (by omega) (by exact rfl) (qa_cons (q_var 0) (qa_cons (q_ix ix_Q o_ix (q_var 1) q_int (by exact fun _ _ => rfl)) (qa_cons (q_ix ix_Q o_ix (q_var 1) q_int (by exact fun _ _ => rfl)) qa_nil (by rfl)) (by rfl)) (by rfl)) (by decide) (by rfl) (by rfl))) (by first | exact nomark _ | rfl))))))), fun as k x h => ?_⟩
    clear tk hr hgd Fn sc T
    obtain ⟨u, f, ps, rfl, ⟨hf, hok, hl⟩, h⟩ := h
    cases hf
    · rename_i i j
      obtain ⟨h1, h2, h3⟩ := hok
      walk_at "q"
      refine ix_ints (by omega) (by omega) fun x hx => ?_
      walk_at "q"
      refine ix_ints (by omega) (by omega) fun y hy => ?_
      walk_at "q"
      rw [Int.toNat_natCast] at hx hy
      exact h _ (by show _ ↔ u[i]? = u[j]?; rw [hx, hy, decide_eq_true_eq, Option.some.injEq])
    · rename_i i j
      obtain ⟨h1, h2, h3⟩ := hok
      walk_at "q"
      refine cIf_r (by decide +kernel) ?_
      walk_at "q"
      refine ix_ints (by omega) (by omega) fun x hx => ?_
      walk_at "q"
      refine ix_ints (by omega) (by omega) fun y hy => ?_
      walk_at "q"
      rw [Int.toNat_natCast] at hx hy
      exact h _ (by show _ ↔ u[i]? ≠ u[j]?; rw [hx, hy, ne_eq, Option.some.injEq]; simp)
    · rename_i i j l
      obtain ⟨h1, h2, h3, h4⟩ := hok
      walk_at "q"
      refine cIf_r (by decide +kernel) ?_
      walk_at "q"
      refine cIf_r (by decide +kernel) ?_
      walk_at "q"
      refine cIf_r (by decide +kernel) ?_
      walk_at "q"
      exact ⟨⟨by omega, by omega, hl⟩, ⟨by omega, by omega, hl⟩, h _ (by rw [says_eqvD h3 h4, decide_eq_true_eq, Int.toNat_natCast, Int.toNat_natCast, Int.toNat_natCast]; rfl)⟩
    · rename_i i w
      obtain ⟨h1, h2⟩ := hok
      walk_at "q"
      refine cIf_r (by decide +kernel) ?_
      walk_at "q"
      refine cIf_r (by decide +kernel) ?_
      walk_at "q"
      exact ⟨⟨by omega, by omega, hl⟩, h _ (by rw [says_win h2, decide_eq_true_eq, Int.toNat_natCast, Int.toNat_natCast, dist_length]; rfl)⟩
    · rename_i i w
      obtain ⟨h1, h2⟩ := hok
      walk_at "q"
      refine cIf_r (by decide +kernel) ?_
      walk_at "q"
      refine cIf_r (by decide +kernel) ?_
      walk_at "q"
      exact ⟨⟨by omega, by omega, hl⟩, h _ (by rw [says_win h2, decide_eq_true_eq, Int.toNat_natCast, Int.toNat_natCast, dist_length]; rfl)⟩
theorem cal__law_holds (T : Tx K mg) : Cal P w K mg base g 3 "_law_holds" [] sp__law_holds := by
  obtain ⟨fd, G, Fn⟩ := fn__law_holds (P := P) (w := w) (base := base) (g := g) T
  exact ⟨_, fd, _, [], G, T.g__law_holds, Fn.kp, Fn.bindsN fun _ _ _ _ _ _ us hl => match us, hl with | [_, _], _ => rfl, .nil, rfl⟩
end

/-! ### _law_dressed_facts -/
def sp__law_dressed_facts : Spq := fun as k _ => ∃ (fc : List Fc) (ds : List D), as = [.bag 0, .bor (.lst ds)] ∧ (FcsAt fc ds ∧ (∀ d ∈ ds, ∃ ps, d = .tup ps ∧ WinL ps) ∧ ds.length ≤ 1000) ∧ ∀ es : List D, FcsAt fc es → (k (.own (.lst es)) ∧ k (.sh (.tup es)))
section
variable {P : Program} {w : World} {K : Fg} {mg : Str → Option Value} {base : Heap}
theorem sc__law_dressed_facts : FnScope ["_law_spring_here", "_law_facts_here", "_law_found", "_law_fact_here", "_law_parts"] ["_law_spring_here", "_law_facts_here"] (defScope s__law_dressed_facts) := ⟨rfl, rfl, rfl, by decide +kernel, rfl, by decide +kernel, by decide +kernel⟩
theorem fn__law_dressed_facts (T : Tx K mg) : ∃ fd, FnG P w K mg base 2 (He.ga K "_law_dressed_facts") fd ["_law_spring_here", "_law_facts_here"] (spQ K mg sprG sp__law_dressed_facts) ∧ FunD K "_law_dressed_facts" "_law_dressed_facts" (defArgs s__law_dressed_facts) (defBody s__law_dressed_facts) (defScope s__law_dressed_facts) [] [] (He.ga K "_law_dressed_facts") fd := by
  have sc := sc__law_dressed_facts
  have C__law_draw : Cal P w K mg base sprG 1 "_law_draw" [] sp__law_draw := cal__law_draw T
  obtain ⟨fd, Fn⟩ := T.f__law_dressed_facts
  refine ⟨fd, fn_q sprG Fn sc (by decide) (fun as k x h => ?_) fun cdv A outer s H E hgd hr => ?_, Fn⟩
  · unfold sp__law_dressed_facts at h; first | (split at h <;> first | rfl | exact h.elim) | (obtain ⟨_, rfl, _⟩ := h; rfl) | (obtain ⟨_, _, rfl, _⟩ := h; rfl) | (obtain ⟨_, _, _, rfl, _⟩ := h; rfl) | (obtain ⟨_, _, _, _, rfl, _⟩ := h; rfl) | (obtain ⟨_, _, _, _, _, rfl, _⟩ := h; rfl) | (obtain ⟨_, _, _, _, _, _, rfl, _⟩ := h; rfl)
  · have tk : Takes (cxOf (L2.CX P w) P w K mg base ["_law_spring_here", "_law_facts_here", "_law_found", "_law_fact_here", "_law_parts"] "_law_dressed_facts" (defScope s__law_dressed_facts) (He.ga K "_law_dressed_facts") cdv A outer s H E) (fun cls d _ H => E cls d H) := takes_of rfl rfl rfl rfl
    refine ⟨_, _, (qs_cons (qs_setN (i := 2) (by exact sc.nd) (by exact rfl) (Or.inl rfl) (qn_lst qa_nil) (by rfl) (by first | exact .inl rfl | exact .inr rfl | assumption))
      (qs_cons (qs_for [3] (qi_seq (q_var 1)) (qg_name (i := 3) (by exact sc.nd) (by exact rfl) (by first | exact Or.inl rfl | exact Or.inr rfl) (by decide) (by first | exact .inl rfl | exact .inr rfl | assumption))
      (qs_cons (qs_setN (i := 4) (by exact sc.nd) (by exact rfl) (Or.inl rfl) (qn_ty call_list_of c_list (by exact rfl) T.z_list (by decide +kernel) (qa_cons (q_var 3) qa_nil (by rfl)) (by decide) (by decide) (by rfl) (by rfl)) (by rfl) (by first | exact .inl rfl | exact .inr rfl | assumption))
      (qs_cons (qs_if (QW.toT (qw_and (qt_cmp (or_eqQ (by exact hr.units)) o_eq (q_ix ix_Q o_ix (q_var 3) q_int (by exact fun _ _ => rfl)) q_str (by first | exact nomark _ | rfl)) (qw_and1 (qt_cmp (or_eqQ (by exact hr.units)) o_eq (QN.qe (qn_call [.bag 0, .bor] C__law_draw (by exact hgd) (by exact hr) (by omega) (by exact rfl) (qa_cons (q_var 0) (qa_cons q_int qa_nil (by rfl)) (by rfl)) (by decide) (by rfl) (by rfl))) q_int (by first | exact nomark _ | rfl))))) (qs_one (qs_lput (i := 4) (by exact rfl) (by first | exact Or.inl rfl | exact Or.inr (Or.inl rfl) | exact Or.inr (Or.inr rfl)) q_int (QN.qe (qn_ty call_tuple_of c_tuple (by exact rfl) T.z_tuple (by decide +kernel) (qa_cons (q_ix ix_Q o_ix (q_var 4) q_int (by exact fun _ _ => rfl)) qa_nil (by rfl)) (by decide) (by decide) (by rfl) (by rfl))) (by decide) (by decide) (by rfl) (by rfl) (by rfl) (by intro _; rfl))) qs_nil)
      (qs_one (qs_expr (q_meth (i := 2) PySem.F.slot_list_append PySem.F.type_list_append mt_append m_append (by exact rfl) (by first | exact Or.inl rfl | exact Or.inr (Or.inl rfl) | exact Or.inr (Or.inr rfl)) (qa_cons (q_ifExp (qt_cmp (or_eqQ (by exact hr.units)) o_eq (QN.qe (qn_call [.bag 0, .bor] C__law_draw (by exact hgd) (by exact hr) (by omega) (by exact rfl) (qa_cons (q_var 0) (qa_cons q_int qa_nil (by rfl)) (by rfl)) (by decide) (by rfl) (by rfl))) q_int (by first | exact nomark _ | rfl)) (q_var 4) (QN.qe (qn_ty call_tuple_of c_tuple (by exact rfl) T.z_tuple (by decide +kernel) (qa_cons (q_var 4) qa_nil (by rfl)) (by decide) (by decide) (by rfl) (by rfl)))) qa_nil (by rfl)) (by decide) (by decide) (by rfl) (by rfl) (by rfl) (by rfl) (by rfl)) (by rfl))))) (passes_of (by exact rfl)) (by rfl) (by intro _; rfl))
      (qs_one (qs_ret (q_ifExp (qt_cmp (or_eqQ (by exact hr.units)) o_eq (QN.qe (qn_call [.bag 0, .bor] C__law_draw (by exact hgd) (by exact hr) (by omega) (by exact rfl) (qa_cons (q_var 0) (qa_cons q_int qa_nil (by rfl)) (by rfl)) (by decide) (by rfl) (by rfl))) q_int (by first | exact nomark _ | rfl)) (q_var 2) (QN.qe (qn_ty call_tuple_of c_tuple (by exact rfl) T.z_tuple (by decide +kernel) (qa_cons (q_var 2) qa_nil (by rfl)) (by decide) (by decide) (by rfl) (by rfl)))))))), fun as k x h => ?_⟩
    clear tk hr hgd Fn sc T
    obtain ⟨fc, ds, rfl, ⟨h1, h2, hl⟩, h⟩ := h
    walk_at "q"
    refine loopJ (fun t env => ∃ (s3 s4 : Sl) (es : List D), env = [.bag 0, .bor (.lst ds), .own (.lst es), s3, s4] ∧ FcsAt (fc.take t) es ∧ es.length = t) ⟨_, _, [], rfl, .nil, rfl⟩ (fun t d env X hd hJ hX => ?_) fun env hJ => ?_
    rotate_left
    · obtain ⟨s3, s4, es, rfl, a1, a2⟩ := hJ
      rw [← h1.length, List.take_length] at a1
      walk_at "q"
      have := h es a1
      refine fun r r0 r1 => cIf_i (fun e => ?_) (fun e => ?_)
      · walk_at "q"
        exact this.1
      · walk_at "q"
        exact this.2
    obtain ⟨s3, s4, es, rfl, a1, a2⟩ := hJ
    obtain ⟨ps, rfl, hwl⟩ := h2 d (List.mem_of_getElem? hd)
    have htl := (List.getElem?_eq_some_iff.mp hd).1
    obtain ⟨f, hf, hfa⟩ := h1.at hd
    have step : ∀ (e : D) (s3 s4 : Sl), FcAt f e → X [.bag 0, .bor (.lst ds), .own (.lst (es ++ [e])), s3, s4] := fun e s3 s4 hfe =>
      hX _ ⟨s3, s4, es ++ [e], rfl, by rw [List.take_add_one, hf]; exact a1.append (.cons hfe .nil), by rw [List.length_append, a2]; rfl⟩
    cases hfa with
    | tup hp =>
    cases hp
    · walk_at "q"
      refine cIf_r (by decide +kernel) ?_
      walk_at "q"
      refine fun r r0 r1 => cIf_i (fun e2 => ?_) (fun e2 => ?_)
      · walk_at "q"
        exact ⟨by omega, step _ _ _ (.lst (by constructor))⟩
      · walk_at "q"
        exact ⟨by omega, step _ _ _ (.tup (by constructor))⟩
    · walk_at "q"
      refine cIf_r (by decide +kernel) ?_
      walk_at "q"
      refine fun r r0 r1 => cIf_i (fun e2 => ?_) (fun e2 => ?_)
      · walk_at "q"
        exact ⟨by omega, step _ _ _ (.lst (by constructor))⟩
      · walk_at "q"
        exact ⟨by omega, step _ _ _ (.tup (by constructor))⟩
    · walk_at "q"
      refine cIf_r (by decide +kernel) ?_
      walk_at "q"
      refine fun r r0 r1 => cIf_i (fun e2 => ?_) (fun e2 => ?_)
      · walk_at "q"
        exact ⟨by omega, step _ _ _ (.lst (by constructor))⟩
      · walk_at "q"
        exact ⟨by omega, step _ _ _ (.tup (by constructor))⟩
    rotate_left
    · exact absurd rfl (hwl _ _ _)
    walk_at "q"
    refine fun r r0 r1 => cIf_i (fun e2 => ?_) (fun e2 => ?_)
    · walk_at "q"
      refine ⟨2, rfl, ?_⟩
      simp only [List.set_cons_succ, List.set_cons_zero]
      refine fun r r0 r1 => cIf_i (fun e2 => ?_) (fun e2 => ?_)
      · walk_at "q"
        exact ⟨by omega, step _ _ _ (.lst (by constructor))⟩
      · walk_at "q"
        exact ⟨by omega, step _ _ _ (.tup (by constructor))⟩
    · walk_at "q"
      refine fun r r0 r1 => cIf_i (fun e2 => ?_) (fun e2 => ?_)
      · walk_at "q"
        exact ⟨by omega, step _ _ _ (.lst (by constructor))⟩
      · walk_at "q"
        exact ⟨by omega, step _ _ _ (.tup (by constructor))⟩
theorem cal__law_dressed_facts (T : Tx K mg) : Cal P w K mg base sprG 2 "_law_dressed_facts" [] sp__law_dressed_facts := by
  obtain ⟨fd, G, Fn⟩ := fn__law_dressed_facts (P := P) (w := w) (base := base) T
  exact ⟨_, fd, _, [], G, T.g__law_dressed_facts, Fn.kp, Fn.bindsN fun _ _ _ _ _ _ us hl => match us, hl with | [_, _], _ => rfl, .nil, rfl⟩
end

/-! ### _law_closure -/
def sp__law_closure : Spq := fun as k x => ∃ (n : Nat) (fc : List Fc) (ds : List D), as = [.bor (.int n), .bor (.lst ds)] ∧ (FcsAt fc ds ∧ (∀ d ∈ ds, ∃ ps, d = .tup ps ∧ WinL ps) ∧ (∀ f ∈ fc, FcOk n f) ∧ n ≤ 60 ∧ ds.length ≤ 60) ∧ ∀ L : List Int, Closed n fc L → k (.own (.lst (L.map .int)))
section
variable {P : Program} {w : World} {K : Fg} {mg : Str → Option Value} {base : Heap} {g : Gd}
theorem sc__law_closure : FnScope ["_law_size", "_law_facts_here", "_law_labels", "_law_news", "_law_pairs", "_law_fact_here", "_law_one", "_law_other", "_law_low", "_law_high", "_law_back", "_law_links", "_law_label", "_law_k", "_law_source", "_law_target", "_law_inner"] ["_law_size", "_law_facts_here"] (defScope s__law_closure) := ⟨rfl, rfl, rfl, by decide +kernel, rfl, by decide +kernel, by decide +kernel⟩
theorem fn__law_closure (T : Tx K mg) : ∃ fd, FnG P w K mg base 2 (He.ga K "_law_closure") fd ["_law_size", "_law_facts_here"] (spQ K mg g sp__law_closure) ∧ FunD K "_law_closure" "_law_closure" (defArgs s__law_closure) (defBody s__law_closure) (defScope s__law_closure) [] [] (He.ga K "_law_closure") fd := by
  have sc := sc__law_closure
  have C__law_distances : Cal P w K mg base g 1 "_law_distances" [] sp__law_distances := cal__law_distances T
  obtain ⟨fd, Fn⟩ := T.f__law_closure
  refine ⟨fd, fn_q g Fn sc (by decide) (fun as k x h => ?_) fun cdv A outer s H E hgd hr => ?_, Fn⟩
  · unfold sp__law_closure at h; first | (split at h <;> first | rfl | exact h.elim) | (obtain ⟨_, rfl, _⟩ := h; rfl) | (obtain ⟨_, _, rfl, _⟩ := h; rfl) | (obtain ⟨_, _, _, rfl, _⟩ := h; rfl) | (obtain ⟨_, _, _, _, rfl, _⟩ := h; rfl) | (obtain ⟨_, _, _, _, _, rfl, _⟩ := h; rfl) | (obtain ⟨_, _, _, _, _, _, rfl, _⟩ := h; rfl)
  · have tk : Takes (cxOf (L2.CX P w) P w K mg base ["_law_size", "_law_facts_here", "_law_labels", "_law_news", "_law_pairs", "_law_fact_here", "_law_one", "_law_other", "_law_low", "_law_high", "_law_back", "_law_links", "_law_label", "_law_k", "_law_source", "_law_target", "_law_inner"] "_law_closure" (defScope s__law_closure) (He.ga K "_law_closure") cdv A outer s H E) (fun cls d _ H => E cls d H) := takes_of rfl rfl rfl rfl
    refine ⟨_, _, (qs_cons (qs_setN (i := 2) (by exact sc.nd) (by exact rfl) (Or.inl rfl) (qn_lstRg1 (by exact rfl) (by exact rfl) T.z_list (by exact rfl) T.z_range (q_var 0) (by rfl) (by rfl)) (by rfl) (by first | exact .inl rfl | exact .inr rfl | assumption))
      (qs_cons (qs_set (i := 3) (by exact sc.nd) (by exact rfl) (Or.inl rfl) q_bl (by rfl) (by first | exact .inl rfl | exact .inr rfl | assumption))
      (qs_cons (qs_while (qt_val (q_var 3) (by intro _; rfl)) (qs_cons (qs_setN (i := 4) (by exact sc.nd) (by exact rfl) (Or.inl rfl) (qn_lst qa_nil) (by rfl) (by first | exact .inl rfl | exact .inr rfl | assumption))
      (qs_cons (qs_for [5] (qi_seq (q_var 1)) (qg_name (i := 5) (by exact sc.nd) (by exact rfl) (by first | exact Or.inl rfl | exact Or.inr rfl) (by decide) (by first | exact .inl rfl | exact .inr rfl | assumption))
      (qs_one (qs_if (qt_cmp (or_eqQ (by exact hr.units)) o_eq (q_ix ix_Q o_ix (q_var 5) q_int (by exact fun _ _ => rfl)) q_str (by first | exact nomark _ | rfl)) (qs_one (qs_expr (q_meth (i := 4) PySem.F.slot_list_append PySem.F.type_list_append mt_append m_append (by exact rfl) (by first | exact Or.inl rfl | exact Or.inr (Or.inl rfl) | exact Or.inr (Or.inr rfl)) (qa_cons (q_tup (qa_cons (q_ix ix_Q o_ix (q_var 5) q_int (by exact fun _ _ => rfl)) (qa_cons (q_ix ix_Q o_ix (q_var 5) q_int (by exact fun _ _ => rfl)) qa_nil (by rfl)) (by rfl))) qa_nil (by rfl)) (by decide) (by decide) (by rfl) (by rfl) (by rfl) (by rfl) (by rfl)) (by rfl))) (qs_one (qs_if (qt_cmp (or_eqQ (by exact hr.units)) o_eq (q_ix ix_Q o_ix (q_var 5) q_int (by exact fun _ _ => rfl)) q_str (by first | exact nomark _ | rfl)) (qs_cons (qs_setN (i := 10) (by exact sc.nd) (by exact rfl) (Or.inr rfl) (qn_ty call_list_of c_list (by exact rfl) T.z_list (by decide +kernel) (qa_cons (q_ix ix_Q o_ix (q_var 5) q_int (by exact fun _ _ => rfl)) qa_nil (by rfl)) (by decide) (by decide) (by rfl) (by rfl)) (by rfl) (by first | exact .inl rfl | exact .inr rfl | assumption))
      (qs_cons (qs_setLcB (i := 11) [("_law_k", 13)] (by exact rfl) (by exact sc.nd) (by exact rfl) (by exact rfl) (sw_true (by exact rfl) (by exact rfl) (by exact rfl) (by decide +kernel)) (qi_range1 (by exact rfl) T.z_range (qa_cons (q_callB call_len c_len (by exact rfl) T.z_len (by decide +kernel) (qa_cons (q_var 10) qa_nil (by rfl)) (by decide) (by decide) (by rfl) (by rfl)) qa_nil (by rfl)) (by rfl)) (blkOk_by (by kernel_rfl)) (fun _ _ _ _ _ => (qg_name (i := 13) (by exact sc.nd) (by exact rfl) (by first | exact Or.inl rfl | exact Or.inr rfl) (by decide) (by first | exact .inl rfl | exact .inr rfl | assumption))) (fun _ _ _ _ _ => (qts_one (qt_cmp op_gt o_gt (q_ix ix_Q o_ix (q_var 10) (q_var 13) (by exact fun _ _ => rfl)) q_int (by first | exact nomark _ | rfl)))) (fun _ _ _ _ _ => (q_var 13)) (by intro _; rfl) (by intros; rfl) (by intros; rfl) (by intros; rfl))
      (qs_one (qs_expr (q_meth (i := 4) PySem.F.slot_list_extend PySem.F.type_list_extend mt_extend m_extend (by exact rfl) (by first | exact Or.inl rfl | exact Or.inr (Or.inl rfl) | exact Or.inr (Or.inr rfl)) (qa_cons (QN.qe (qn_lcB [("_law_k", 13)] (by exact rfl) (by exact sc.nd) (qi_seq (q_var 11)) (blkOk_by (by kernel_rfl)) (fun _ _ _ _ _ => (qg_name (i := 13) (by exact sc.nd) (by exact rfl) (by first | exact Or.inl rfl | exact Or.inr rfl) (by decide) (by first | exact .inl rfl | exact .inr rfl | assumption))) (fun _ _ _ _ _ => qts_nil) (fun _ _ _ _ _ => (q_tup (qa_cons (q_op op_sub o_sub (QN.qe (qn_opR or_addQ o_add (q_ix ix_Q o_ix (q_var 5) q_int (by exact fun _ _ => rfl)) (q_var 13))) (q_ix ix_Q o_ix (q_var 10) (q_var 13) (by exact fun _ _ => rfl))) (qa_cons (QN.qe (qn_opR or_addQ o_add (q_ix ix_Q o_ix (q_var 5) q_int (by exact fun _ _ => rfl)) (q_var 13))) qa_nil (by rfl)) (by rfl)))) (by intro _; rfl) (by intros; rfl) (by intros; rfl) (by intros; rfl))) qa_nil (by rfl)) (by decide) (by decide) (by rfl) (by rfl) (by rfl) (by rfl) (by rfl)) (by rfl))))) (qs_one (qs_if (qt_cmp (or_eqQ (by exact hr.units)) o_eq (q_ix ix_Q o_ix (q_var 5) q_int (by exact fun _ _ => rfl)) q_str (by first | exact nomark _ | rfl)) (qs_one (qs_for [14, 15] (qi_seq (QN.qe (qn_lst (qa_cons (q_tup (qa_cons (q_ix ix_Q o_ix (q_var 5) q_int (by exact fun _ _ => rfl)) (qa_cons (q_ix ix_Q o_ix (q_var 5) q_int (by exact fun _ _ => rfl)) qa_nil (by rfl)) (by rfl))) (qa_cons (q_tup (qa_cons (q_ix ix_Q o_ix (q_var 5) q_int (by exact fun _ _ => rfl)) (qa_cons (q_ix ix_Q o_ix (q_var 5) q_int (by exact fun _ _ => rfl)) qa_nil (by rfl)) (by rfl))) qa_nil (by rfl)) (by rfl))))) (qg_tup (n := 2) (by exact rfl) (qgs_cons (qg_name (i := 14) (by exact sc.nd) (by exact rfl) (by first | exact Or.inl rfl | exact Or.inr rfl) (by decide) (by first | exact .inl rfl | exact .inr rfl | assumption)) (qgs_cons (qg_name (i := 15) (by exact sc.nd) (by exact rfl) (by first | exact Or.inl rfl | exact Or.inr rfl) (by decide) (by first | exact .inl rfl | exact .inr rfl | assumption)) qgs_nil (by rfl)) (by rfl)) (by rfl) (by rfl))
      (qs_cons (qs_setN (i := 16) (by exact sc.nd) (by exact rfl) (Or.inr rfl) (qn_call [.bor] C__law_distances (by exact hgd) (by exact hr) (by omega) (by exact rfl) (qa_cons (QN.qe (qn_sl sl_Q o_sl (q_var 2) (qo_some (q_var 14)) (qo_some (QN.qe (qn_opR or_addQ o_add (q_var 14) (q_ix ix_Q o_ix (q_var 5) q_int (by exact fun _ _ => rfl))))))) qa_nil (by rfl)) (by decide) (by rfl) (by rfl)) (by rfl) (by first | exact .inl rfl | exact .inr rfl | assumption))
      (qs_cons (qs_setLcB (i := 11) [("_law_k", 13)] (by exact rfl) (by exact sc.nd) (by exact rfl) (by exact rfl) (sw_true (by exact rfl) (by exact rfl) (by exact rfl) (by decide +kernel)) (qi_range1 (by exact rfl) T.z_range (qa_cons (q_ix ix_Q o_ix (q_var 5) q_int (by exact fun _ _ => rfl)) qa_nil (by rfl)) (by rfl)) (blkOk_by (by kernel_rfl)) (fun _ _ _ _ _ => (qg_name (i := 13) (by exact sc.nd) (by exact rfl) (by first | exact Or.inl rfl | exact Or.inr rfl) (by decide) (by first | exact .inl rfl | exact .inr rfl | assumption))) (fun _ _ _ _ _ => (qts_one (qt_cmp op_gt o_gt (q_ix ix_Q o_ix (q_var 16) (q_var 13) (by exact fun _ _ => rfl)) q_int (by first | exact nomark _ | rfl)))) (fun _ _ _ _ _ => (q_var 13)) (by intro _; rfl) (by intros; rfl) (by intros; rfl) (by intros; rfl))
      (qs_one (qs_expr (q_meth (i := 4) PySem.F.slot_list_extend PySem.F.type_list_extend mt_extend m_extend (by exact rfl) (by first | exact Or.inl rfl | exact Or.inr (Or.inl rfl) | exact Or.inr (Or.inr rfl)) (qa_cons (QN.qe (qn_lcB [("_law_k", 13)] (by exact rfl) (by exact sc.nd) (qi_seq (q_var 11)) (blkOk_by (by kernel_rfl)) (fun _ _ _ _ _ => (qg_name (i := 13) (by exact sc.nd) (by exact rfl) (by first | exact Or.inl rfl | exact Or.inr rfl) (by decide) (by first | exact .inl rfl | exact .inr rfl | assumption))) (fun _ _ _ _ _ => qts_nil) (fun _ _ _ _ _ => (q_tup (qa_cons (q_op op_sub o_sub (QN.qe (qn_opR or_addQ o_add (q_var 15) (q_var 13))) (q_ix ix_Q o_ix (q_var 16) (q_var 13) (by exact fun _ _ => rfl))) (qa_cons (QN.qe (qn_opR or_addQ o_add (q_var 15) (q_var 13))) qa_nil (by rfl)) (by rfl)))) (by intro _; rfl) (by intros; rfl) (by intros; rfl) (by intros; rfl))) qa_nil (by rfl)) (by decide) (by decide) (by rfl) (by rfl) (by rfl) (by rfl) (by rfl)) (by rfl))))) (passes_of (by exact rfl)) (by rfl) (by intro _; rfl))) qs_nil)))))) (passes_of (by exact rfl)) (by rfl) (by intro _; rfl))
      (qs_cons (qs_set (i := 3) (by exact sc.nd) (by exact rfl) (Or.inl rfl) q_bl (by rfl) (by first | exact .inl rfl | exact .inr rfl | assumption))
      (qs_one (qs_for [6, 7] (qi_seq (q_var 4)) (qg_tup (n := 2) (by exact rfl) (qgs_cons (qg_name (i := 6) (by exact sc.nd) (by exact rfl) (by first | exact Or.inl rfl | exact Or.inr rfl) (by decide) (by first | exact .inl rfl | exact .inr rfl | assumption)) (qgs_cons (qg_name (i := 7) (by exact sc.nd) (by exact rfl) (by first | exact Or.inl rfl | exact Or.inr rfl) (by decide) (by first | exact .inl rfl | exact .inr rfl | assumption)) qgs_nil (by rfl)) (by rfl)) (by rfl) (by rfl))
      (qs_cons (qs_unpack [8, 9] (q_tup (qa_cons (q_callB (call_min2 (by exact rfl)) c_min (by exact rfl) T.z_min (by decide +kernel) (qa_cons (q_ix ix_Q o_ix (q_var 2) (q_var 6) (by exact fun _ _ => rfl)) (qa_cons (q_ix ix_Q o_ix (q_var 2) (q_var 7) (by exact fun _ _ => rfl)) qa_nil (by rfl)) (by rfl)) (by decide) (by decide) (by rfl) (by rfl)) (qa_cons (q_callB (call_max2 (by exact rfl)) c_max (by exact rfl) T.z_max (by decide +kernel) (qa_cons (q_ix ix_Q o_ix (q_var 2) (q_var 6) (by exact fun _ _ => rfl)) (qa_cons (q_ix ix_Q o_ix (q_var 2) (q_var 7) (by exact fun _ _ => rfl)) qa_nil (by rfl)) (by rfl)) (by decide) (by decide) (by rfl) (by rfl)) qa_nil (by rfl)) (by rfl))) (qg_tup (n := 2) (by exact rfl) (qgs_cons (qg_name (i := 8) (by exact sc.nd) (by exact rfl) (by first | exact Or.inl rfl | exact Or.inr rfl) (by decide) (by first | exact .inl rfl | exact .inr rfl | assumption)) (qgs_cons (qg_name (i := 9) (by exact sc.nd) (by exact rfl) (by first | exact Or.inl rfl | exact Or.inr rfl) (by decide) (by first | exact .inl rfl | exact .inr rfl | assumption)) qgs_nil (by rfl)) (by rfl)) (by rfl) (by rfl)) (by rfl) (by rfl) (by rfl))
      (qs_one (qs_if (qt_cmp (or_neQ (by exact hr.units)) o_ne (q_var 8) (q_var 9) (by first | exact nomark _ | rfl)) (qs_cons (qs_setLcB (i := 2) [("_law_label", 12)] (by exact rfl) (by exact sc.nd) (by exact rfl) (by exact rfl) (sw_true (by exact rfl) (by exact rfl) (by exact rfl) (by decide +kernel)) (qi_seq (q_var 2)) (blkOk_by (by kernel_rfl)) (fun _ _ _ _ _ => (qg_name (i := 12) (by exact sc.nd) (by exact rfl) (by first | exact Or.inl rfl | exact Or.inr rfl) (by decide) (by first | exact .inl rfl | exact .inr rfl | assumption))) (fun _ _ _ _ _ => qts_nil) (fun _ _ _ _ _ => (q_ifExp (qt_cmp (or_eqQ (by exact hr.units)) o_eq (q_var 12) (q_var 9) (by first | exact nomark _ | rfl)) (q_var 8) (q_var 12))) (by intro _; rfl) (by intros; rfl) (by intros; rfl) (by intros; rfl))
      (qs_one (qs_set (i := 3) (by exact sc.nd) (by exact rfl) (Or.inl rfl) q_bl (by rfl) (by first | exact .inl rfl | exact .inr rfl | assumption)))) qs_nil))) (passes_of (by exact rfl)) (by rfl) (by intro _; rfl)))))) (passes_of (by exact rfl)))
      (qs_one (qs_ret (q_var 2)))))), fun as k x h => ?_⟩
    clear tk hr hgd Fn sc T
    obtain ⟨n, fc, ds, rfl, ⟨hfc, hds, hok, n2, hl⟩, h⟩ := h
    walk_at "q"
    refine ⟨by omega, by omega, ?_⟩
    rw [ranged_upto, Int.toNat_natCast]
    refine while_rule (fun a : List Int × Bool × List Sl => [.bor (.int n), .bor (.lst ds), .own (.lst (a.1.map .int)), .sh (.bl a.2.1)] ++ a.2.2) (fun m a => Snd n fc a.1 ∧ (dd a.1).length + (if a.2.1 then 1 else 0) < m ∧ (a.2.1 = false → Closed n fc a.1) ∧ a.2.2.length = 13) (n + 2) (upto n, true, [.no, .no, .no, .no, .no, .no, .no, .no, .no, .no, .no, .no, .no]) ⟨snd_start n fc, ?_, (fun e => nomatch e), rfl⟩ (fun a h => by have := h.2.1; omega) (fun m a X hI hX => ?_)
    · have := dd_le (upto n)
      rw [upto_length] at this
      show (dd (upto n)).length + 1 < _
      omega
    obtain ⟨L, b, sl⟩ := a
    obtain ⟨hS, hM, hC, hsl⟩ := hI
    match sl, hsl with
    | [s4, s5, s6, s7, s8, s9, s10, s11, s12, s13, s14, s15, s16], _ =>
    dsimp only [List.cons_append, List.nil_append] at hS hM hC ⊢
    walk_at "q"
    cases b with
    | false =>
      walk_at "q"
      exact h L (hC rfl)
    | true =>
    clear hC
    replace hX := fun L' b' s4 s5 s6 s7 s8 s9 s10 s11 s12 s13 s14 s15 s16 => hX (L', b', [s4, s5, s6, s7, s8, s9, s10, s11, s12, s13, s14, s15, s16])
    dsimp only [List.cons_append, List.nil_append] at hX
    walk_at "q"
    refine loopJ (fun t env => ∃ (P : List (Nat × Nat)) (s5 s6 s7 s8 s9 s10 s11 s12 s13 s14 s15 s16 : Sl), env = [.bor (.int n), .bor (.lst ds), .own (.lst (L.map .int)), .sh (.bl true), .own (.lst (P.map Q.prD)), s5, s6, s7, s8, s9, s10, s11, s12, s13, s14, s15, s16] ∧ PF n L (fc.take t) P ∧ P.length ≤ 120 * t) ⟨[], _, _, _, _, _, _, _, _, _, _, _, _, rfl, pf_nil n L, Nat.zero_le _⟩ (fun t d env X2 hd hJ hX2 => ?_) fun env hJ => ?_
    · obtain ⟨P, s5, s6, s7, s8, s9, s10, s11, s12, s13, s14, s15, s16, rfl, hP, hPl⟩ := hJ
      obtain ⟨ps, rfl, hwl⟩ := hds d (List.mem_of_getElem? hd)
      obtain ⟨f, hf, hat⟩ := hfc.at hd
      have ok := hok f (List.mem_of_getElem? hf)
      have htl := (List.getElem?_eq_some_iff.mp hd).1
      have hLl := hS.1
      have step : ∀ (R : List (Nat × Nat)) (s5 s6 s7 s8 s9 s10 s11 s12 s13 s14 s15 s16 : Sl), PF n L [f] R → R.length ≤ 120 → X2 [.bor (.int n), .bor (.lst ds), .own (.lst (L.map .int)), .sh (.bl true), .own (.lst (P.map Q.prD ++ R.map Q.prD)), s5, s6, s7, s8, s9, s10, s11, s12, s13, s14, s15, s16] := fun R s5 s6 s7 s8 s9 s10 s11 s12 s13 s14 s15 s16 hR hl => by
        rw [← List.map_append]
        exact hX2 _ ⟨P ++ R, _, _, _, _, _, _, _, _, _, _, _, _, rfl, by rw [List.take_add_one, hf]; exact hP.app hR, by rw [List.length_append]; omega⟩
      cases hat with
      | tup hp =>
      cases hp
      · rename_i i j
        walk_at "q"
        exact ⟨by omega, step [(i, j)] _ _ _ _ _ _ _ _ _ _ _ _ (pf_same ok) (by show 1 ≤ 120; decide)⟩
      · rename_i i j
        walk_at "q"
        refine cIf_r (by decide +kernel) ?_
        walk_at "q"
        refine cIf_r (by decide +kernel) ?_
        walk_at "q"
        refine cIf_r (by decide +kernel) ?_
        walk_at "q"
        have := step [] (.sh (.tup [.str (Str.ofString "different"), .int i, .int j])) s6 s7 s8 s9 s10 s11 s12 s13 s14 s15 s16 pf_diff (by show 0 ≤ 120; decide)
        rw [List.map_nil, List.append_nil] at this
        exact this
      · rename_i i j l
        have hpf := pf_eqv hLl ok
        obtain ⟨o1, o2, o3, o4⟩ := ok
        walk_at "q"
        refine cIf_r (by decide +kernel) ?_
        walk_at "q"
        refine cIf_r (by decide +kernel) ?_
        walk_at "q"
        have e1 : cut (L.map D.int) (some (i : Int)) (some ((i : Int) + (l : Int))) = (segN L i l).map D.int := by
          rw [cut_win (by omega) (by omega), Int.toNat_natCast, Int.toNat_natCast, int_drop, int_take]; rfl
        have e2 : cut (L.map D.int) (some (j : Int)) (some ((j : Int) + (l : Int))) = (segN L j l).map D.int := by
          rw [cut_win (by omega) (by omega), Int.toNat_natCast, Int.toNat_natCast, int_drop, int_take]; rfl
        have l1 := segN_len (L := L) (s := i) (l := l) (by omega)
        have l2 := segN_len (L := L) (s := j) (l := l) (by omega)
        rw [e1]
        walk_at "q"
        refine ⟨by omega, by omega, by omega, ?_⟩
        rw [ranged_upto, Int.toNat_natCast, show upto l = upto (segN L i l).length by rw [l1]]
        refine comp_ints (fun q => decide (0 < dAt (segN L i l) q.toNat)) (fun q => .int q) (fun q v acc Y hi hq hla g1 g2 => ?_) ?_
        · obtain ⟨rfl, hq2⟩ := upto_get hi
          unfold compStep
          walk_at "q"
          refine ix_ints (by omega) (by rw [dist_length]; omega) fun x hx => ?_
          rw [Int.toNat_natCast, dist_get _ hq2] at hx
          cases hx
          rw [Int.toNat_natCast] at g1 g2
          walk_at "q"
          refine cIf_i (fun e => ?_) (fun e => ?_)
          · walk_at "q"
            exact ⟨by rw [upto_length] at hq; omega, g1 (decide_eq_true (by omega))⟩
          · walk_at "q"
            exact g2 (decide_eq_false (by omega))
        rw [show (upto (segN L i l).length).filter (fun q => decide (0 < dAt (segN L i l) q.toNat)) = lkI (segN L i l) from rfl]
        walk_at "q"
        have hlkl1 := lkI_len (segN L i l)
        refine comp_ints (fun _ => true) (fun q => D.tup [.int ((j : Int) + q - dAt (segN L i l) q.toNat), .int ((j : Int) + q)]) (fun q v acc Y hi hq hla g1 _ => ?_) ?_
        · have hv := lkI_bd (List.mem_of_getElem? hi)
          unfold compStep
          walk_at "q"
          refine ix_ints (by omega) (by rw [dist_length]; omega) fun x hx => ?_
          rw [dist_get _ (by omega)] at hx
          cases hx
          walk_at "q"
          exact ⟨by omega, g1 rfl⟩
        rw [filter_tt, lkI_shL]
        walk_at "q"
        have hsll1 := shL_len (segN L i l) j
        refine ⟨by omega, ?_⟩
        walk_at "q"
        rw [e2]
        walk_at "q"
        refine ⟨by omega, by omega, by omega, ?_⟩
        rw [ranged_upto, Int.toNat_natCast, show upto l = upto (segN L j l).length by rw [l2]]
        refine comp_ints (fun q => decide (0 < dAt (segN L j l) q.toNat)) (fun q => .int q) (fun q v acc Y hi hq hla g1 g2 => ?_) ?_
        · obtain ⟨rfl, hq2⟩ := upto_get hi
          unfold compStep
          walk_at "q"
          refine ix_ints (by omega) (by rw [dist_length]; omega) fun x hx => ?_
          rw [Int.toNat_natCast, dist_get _ hq2] at hx
          cases hx
          rw [Int.toNat_natCast] at g1 g2
          walk_at "q"
          refine cIf_i (fun e => ?_) (fun e => ?_)
          · walk_at "q"
            exact ⟨by rw [upto_length] at hq; omega, g1 (decide_eq_true (by omega))⟩
          · walk_at "q"
            exact g2 (decide_eq_false (by omega))
        rw [show (upto (segN L j l).length).filter (fun q => decide (0 < dAt (segN L j l) q.toNat)) = lkI (segN L j l) from rfl]
        walk_at "q"
        have hlkl2 := lkI_len (segN L j l)
        refine comp_ints (fun _ => true) (fun q => D.tup [.int ((i : Int) + q - dAt (segN L j l) q.toNat), .int ((i : Int) + q)]) (fun q v acc Y hi hq hla g1 _ => ?_) ?_
        · have hv := lkI_bd (List.mem_of_getElem? hi)
          unfold compStep
          walk_at "q"
          refine ix_ints (by omega) (by rw [dist_length]; omega) fun x hx => ?_
          rw [dist_get _ (by omega)] at hx
          cases hx
          walk_at "q"
          exact ⟨by omega, g1 rfl⟩
        rw [filter_tt, lkI_shL]
        walk_at "q"
        have hsll2 := shL_len (segN L j l) i
        refine ⟨by simp only [List.length_append, List.length_map]; omega, ?_⟩
        rw [List.append_assoc, ← List.map_append]
        exact step _ _ _ _ _ _ _ _ _ _ _ _ _ hpf (by rw [List.length_append]; omega)
      · rename_i i w
        obtain ⟨o1, o2⟩ := ok
        walk_at "q"
        refine cIf_r (by decide +kernel) ?_
        walk_at "q"
        refine ⟨by rw [dist_length]; omega, by rw [dist_length]; omega, ?_⟩
        rw [ranged_upto, Int.toNat_natCast, dist_length]
        refine comp_ints (fun q => decide (0 < dAt w q.toNat)) (fun q => .int q) (fun q v acc Y hi hq hla g1 g2 => ?_) ?_
        · obtain ⟨rfl, hq2⟩ := upto_get hi
          unfold compStep
          walk_at "q"
          refine ix_ints (by omega) (by rw [dist_length]; omega) fun x hx => ?_
          rw [Int.toNat_natCast, dist_get w hq2] at hx
          cases hx
          rw [Int.toNat_natCast] at g1 g2
          walk_at "q"
          refine cIf_i (fun e => ?_) (fun e => ?_)
          · walk_at "q"
            exact ⟨by rw [upto_length] at hq; omega, g1 (decide_eq_true (by omega))⟩
          · walk_at "q"
            exact g2 (decide_eq_false (by omega))
        rw [show (upto w.length).filter (fun q => decide (0 < dAt w q.toNat)) = lkI w from rfl]
        walk_at "q"
        have hlk := lkI_len w
        refine comp_ints (fun _ => true) (fun q => D.tup [.int ((i : Int) + q - dAt w q.toNat), .int ((i : Int) + q)]) (fun q v acc Y hi hq hla g1 _ => ?_) ?_
        · have hv := lkI_bd (List.mem_of_getElem? hi)
          unfold compStep
          walk_at "q"
          refine ix_ints (by omega) (by rw [dist_length]; omega) fun x hx => ?_
          rw [dist_get w (by omega)] at hx
          cases hx
          walk_at "q"
          exact ⟨by omega, g1 rfl⟩
        rw [filter_tt, lkI_shL]
        walk_at "q"
        have hsl := shL_len w i
        exact ⟨by omega, step (shL w i) _ _ _ _ _ _ _ _ _ _ _ _ (pf_win ⟨o1, o2⟩) (by omega)⟩
      · exact absurd rfl (hwl _ _ _)
    obtain ⟨P, s5, s6, s7, s8, s9, s10, s11, s12, s13, s14, s15, s16, rfl, hP, hPl⟩ := hJ
    rw [← hfc.length, List.take_length] at hP
    walk_at "q"
    refine loopJ (fun t env => ∃ (M : List Int) (c : Bool) (s6 s7 s8 s9 s12 : Sl), env = [.bor (.int n), .bor (.lst ds), .own (.lst (M.map .int)), .sh (.bl c), .sh (.lst (P.map Q.prD)), s5, s6, s7, s8, s9, s10, s11, s12, s13, s14, s15, s16] ∧ Pass n fc L P t M c) ⟨L, false, _, _, _, _, _, rfl, pass_start hS⟩ (fun t d env X2 hd hJ hX2 => ?_) fun env hJ => ?_
    · obtain ⟨M, c, s6, s7, s8, s9, s12, rfl, hM⟩ := hJ
      rw [List.getElem?_map] at hd
      cases he : P[t]? with
      | none => rw [he] at hd; cases hd
      | some pq =>
      rw [he] at hd
      cases hd
      have hbd := hP.bd pq (List.mem_of_getElem? he)
      have hMl := hM.snd.1
      obtain ⟨a, ha⟩ : ∃ a, M[pq.1]? = some a := ⟨_, List.getElem?_eq_getElem (by omega)⟩
      obtain ⟨b, hb⟩ : ∃ b, M[pq.2]? = some b := ⟨_, List.getElem?_eq_getElem (by omega)⟩
      have stp := hM.step hP hS he ha hb
      rw [show Q.prD pq = D.tup [.int pq.1, .int pq.2] from rfl]
      walk_at "q"
      refine ix_ints (by omega) (by omega) fun a1 ha1 => ?_
      rw [Int.toNat_natCast, ha] at ha1
      cases ha1
      walk_at "q"
      refine ix_ints (by omega) (by omega) fun b1 hb1 => ?_
      rw [Int.toNat_natCast, hb] at hb1
      cases hb1
      walk_at "q"
      refine ix_ints (by omega) (by omega) fun a1 ha1 => ?_
      rw [Int.toNat_natCast, ha] at ha1
      cases ha1
      walk_at "q"
      refine ix_ints (by omega) (by omega) fun b1 hb1 => ?_
      rw [Int.toNat_natCast, hb] at hb1
      cases hb1
      walk_at "q"
      rw [min_if, max_if]
      refine cIf_i (fun e => ?_) (fun e => ?_)
      · walk_at "q"
        have eab : a = b := by omega
        subst eab
        rw [mrg_same, decide_eq_false (by simp), Bool.or_false] at stp
        exact hX2 _ ⟨M, c, _, _, _, _, _, rfl, stp⟩
      · walk_at "q"
        have eab : a ≠ b := fun z => e (by rw [z, Int.min_self, Int.max_self])
        rw [decide_eq_true eab, Bool.or_true] at stp
        refine comp_ints (fun _ => true) (fun x => .int (if x = max a b then min a b else x)) (fun q v acc Y hi hq hla g1 _ => ?_) ?_
        · have g1 := g1 rfl
          unfold compStep
          walk_at "q"
          refine cIf_i (fun e => ?_) (fun e => ?_)
          · rw [if_pos e] at g1
            walk_at "q"
            exact ⟨by omega, g1⟩
          · rw [if_neg e] at g1
            walk_at "q"
            exact ⟨by omega, g1⟩
        rw [filter_tt, show M.map (fun x => D.int (if x = max a b then min a b else x)) = (mrg M a b).map .int by unfold mrg; rw [List.map_map]; rfl]
        walk_at "q"
        exact hX2 _ ⟨mrg M a b, true, _, _, _, _, _, rfl, stp⟩
    obtain ⟨M, c, s6, s7, s8, s9, s12, rfl, hM⟩ := hJ
    rw [List.length_map] at hM
    walk_at "q"
    refine hX M c (.sh (.lst (P.map Q.prD))) s5 s6 s7 s8 s9 s10 s11 s12 s13 s14 s15 s16 ⟨hM.snd, ?_, fun e => ?_, rfl⟩
    · have h1 := hM.less
      have h2 := hM.le
      have h3 : (dd L).length + 1 < m + 1 := by assumption
      show (dd M).length + (if c = true then 1 else 0) < m
      cases c with
      | true => have := h1 rfl; rw [if_pos rfl]; omega
      | false => rw [if_neg (by decide)]; omega
    · have e : c = false := e
      subst e
      exact hM.closed hP
theorem cal__law_closure (T : Tx K mg) : Cal P w K mg base g 2 "_law_closure" [] sp__law_closure := by
  obtain ⟨fd, G, Fn⟩ := fn__law_closure (P := P) (w := w) (base := base) (g := g) T
  exact ⟨_, fd, _, [], G, T.g__law_closure, Fn.kp, Fn.bindsN fun _ _ _ _ _ _ us hl => match us, hl with | [_, _], _ => rfl, .nil, rfl⟩
end

/-! ### _law_finest -/
def sp__law_finest : Spq := fun as k x => ∃ (n : Nat) (fc : List Fc) (ds : List D), as = [.bor (.int n), .bor (.lst ds)] ∧ (FcsAt fc ds ∧ (∀ d ∈ ds, ∃ ps, d = .tup ps ∧ WinL ps) ∧ (∀ f ∈ fc, FcOk n f) ∧ n ≤ 60 ∧ ds.length ≤ 60) ∧ ((∀ u, ¬ Fit n fc u) → k (.sh .non)) ∧ ∀ L : List Int, Closed n fc L → Fit n fc L → k (.own (.lst (L.map .int)))
section
variable {P : Program} {w : World} {K : Fg} {mg : Str → Option Value} {base : Heap} {g : Gd}
theorem sc__law_finest : FnScope ["_law_size", "_law_facts_here", "_law_labels", "_law_broken", "_law_fact_here"] ["_law_size", "_law_facts_here"] (defScope s__law_finest) := ⟨rfl, rfl, rfl, by decide +kernel, rfl, by decide +kernel, by decide +kernel⟩
theorem fn__law_finest (T : Tx K mg) : ∃ fd, FnG P w K mg base 4 (He.ga K "_law_finest") fd ["_law_size", "_law_facts_here"] (spQ K mg g sp__law_finest) ∧ FunD K "_law_finest" "_law_finest" (defArgs s__law_finest) (defBody s__law_finest) (defScope s__law_finest) [] [] (He.ga K "_law_finest") fd := by
  have sc := sc__law_finest
  have C__law_closure : Cal P w K mg base g 2 "_law_closure" [] sp__law_closure := cal__law_closure T
  have C__law_holds : Cal P w K mg base g 3 "_law_holds" [] sp__law_holds := cal__law_holds T
  obtain ⟨fd, Fn⟩ := T.f__law_finest
  refine ⟨fd, fn_q g Fn sc (by decide) (fun as k x h => ?_) fun cdv A outer s H E hgd hr => ?_, Fn⟩
  · unfold sp__law_finest at h; first | (split at h <;> first | rfl | exact h.elim) | (obtain ⟨_, rfl, _⟩ := h; rfl) | (obtain ⟨_, _, rfl, _⟩ := h; rfl) | (obtain ⟨_, _, _, rfl, _⟩ := h; rfl) | (obtain ⟨_, _, _, _, rfl, _⟩ := h; rfl) | (obtain ⟨_, _, _, _, _, rfl, _⟩ := h; rfl) | (obtain ⟨_, _, _, _, _, _, rfl, _⟩ := h; rfl)
  · have tk : Takes (cxOf (L2.CX P w) P w K mg base ["_law_size", "_law_facts_here", "_law_labels", "_law_broken", "_law_fact_here"] "_law_finest" (defScope s__law_finest) (He.ga K "_law_finest") cdv A outer s H E) (fun cls d _ H => E cls d H) := takes_of rfl rfl rfl rfl
    refine ⟨_, _, (qs_cons (qs_setN (i := 2) (by exact sc.nd) (by exact rfl) (Or.inr rfl) (qn_call [.bor, .bor] C__law_closure (by exact hgd) (by exact hr) (by omega) (by exact rfl) (qa_cons (q_var 0) (qa_cons (q_var 1) qa_nil (by rfl)) (by rfl)) (by decide) (by rfl) (by rfl)) (by rfl) (by first | exact .inl rfl | exact .inr rfl | assumption))
      (qs_cons (qs_setLcB (i := 3) [("_law_fact_here", 4)] (by exact rfl) (by exact sc.nd) (by exact rfl) (by exact rfl) (sw_true (by exact rfl) (by exact rfl) (by exact rfl) (by decide +kernel)) (qi_seq (q_var 1)) (blkOk_by (by kernel_rfl)) (fun _ _ _ _ _ => (qg_name (i := 4) (by exact sc.nd) (by exact rfl) (by first | exact Or.inl rfl | exact Or.inr rfl) (by decide) (by first | exact .inl rfl | exact .inr rfl | assumption))) (fun _ _ _ _ _ => (qts_one (qt_not (qt_val (QN.qe (qn_call [.bor, .bor] C__law_holds (by exact hgd) (by exact hr) (by omega) (by exact rfl) (qa_cons (q_var 2) (qa_cons (q_var 4) qa_nil (by rfl)) (by rfl)) (by decide) (by rfl) (by rfl))) (by intro _; rfl))))) (fun _ _ _ _ _ => (q_var 4)) (by intro _; rfl) (by intros; rfl) (by intros; rfl) (by intros; rfl))
      (qs_one (qs_ret (q_ifExp (qt_cmp (op_eqNil (by exact hr.units)) o_eqNl (q_var 3) (QN.qe (qn_lst qa_nil)) (by first | exact nomark _ | rfl)) (q_var 2) q_non))))), fun as k x h => ?_⟩
    clear tk hr hgd Fn sc T
    obtain ⟨n, fc, ds, rfl, ⟨hfc, hds, hok, n2, hl⟩, hn, h⟩ := h
    walk_at "q"
    refine ⟨n, fc, ds, rfl, ⟨hfc, hds, hok, n2, hl⟩, fun L hL => ?_⟩
    walk_at "q"
    refine comp_rule (fun _ : Unit => _) (fun m _ acc => (acc = [] ↔ ∀ f ∈ fc.take m, Says L f) ∧ acc.length ≤ m) () ⟨by simp, Nat.le_refl _⟩ (fun m d _ acc X hdd hI hX => ?_) fun _ acc hI => ?_
    · obtain ⟨hI, hal⟩ := hI
      obtain ⟨f, e1, e2⟩ := hfc.at hdd
      obtain ⟨ps, rfl, _⟩ := hds d (List.mem_of_getElem? hdd)
      have hml := (List.getElem?_eq_some_iff.mp hdd).1
      have hLl := hL.len
      cases e2 with
      | tup hp =>
      unfold compStep
      walk_at "q"
      refine ⟨L, f, ps, rfl, ⟨hp, by rw [hLl]; exact hok f (List.mem_of_getElem? e1), by omega⟩, fun b hb => ?_⟩
      walk_at "q"
      cases b with
      | true =>
        walk_at "q"
        refine hX () _ ⟨?_, by omega⟩
        rw [List.take_add_one, e1, hI]
        constructor
        · intro h f hf
          rcases List.mem_append.mp hf with hf | hf
          · exact h f hf
          · rw [List.mem_singleton.mp hf]; exact hb.mp rfl
        · exact fun h f hf => h f (List.mem_append_left _ hf)
      | false =>
        walk_at "q"
        refine ⟨by omega, hX () _ ⟨⟨fun z => by simp at z, fun z => ?_⟩, by rw [List.length_append]; show _ + 1 ≤ _; omega⟩⟩
        exact absurd (hb.mpr (z f (by rw [List.take_add_one, e1]; exact List.mem_append_right _ (List.mem_singleton.mpr rfl)))) (by decide)
    obtain ⟨hI, hal⟩ := hI
    rw [← hfc.length, List.take_length] at hI
    walk_at "q"
    refine cIf_b (fun e => ?_) (fun e => ?_)
    · walk_at "q"
      exact h L hL ⟨hL.len, hI.mp (List.isEmpty_iff.mp e)⟩
    · walk_at "q"
      refine hn fun u hu => ?_
      have : acc = [] := hI.mpr fun f hf => (says_iff (hL.made f hf)).mpr (hL.no hok hu f hf)
      rw [this] at e
      cases e
theorem cal__law_finest (T : Tx K mg) : Cal P w K mg base g 4 "_law_finest" [] sp__law_finest := by
  obtain ⟨fd, G, Fn⟩ := fn__law_finest (P := P) (w := w) (base := base) (g := g) T
  exact ⟨_, fd, _, [], G, T.g__law_finest, Fn.kp, Fn.bindsN fun _ _ _ _ _ _ us hl => match us, hl with | [_, _], _ => rfl, .nil, rfl⟩
end

/-! ### _law_relation -/
def sp__law_relation : Spq := fun as k x => ∃ (n : Nat) (fc : List Fc) (ds : List D) (i j : Nat), as = [.bor (.int n), .bor (.lst ds), .bor (.int i), .bor (.int j)] ∧ (FcsAt fc ds ∧ (∀ d ∈ ds, ∃ ps, d = .tup ps ∧ WinL ps) ∧ (∀ f ∈ fc, FcOk n f) ∧ n ≤ 60 ∧ ds.length ≤ 59 ∧ i < n ∧ j < n) ∧ ((∀ u, ¬ Fit n fc u) → k (.sh (.str (Str.ofString "none")))) ∧ ∀ s : String, Rel2 n fc i j s → k (.sh (.str (Str.ofString s)))
section
variable {P : Program} {w : World} {K : Fg} {mg : Str → Option Value} {base : Heap} {g : Gd}
theorem sc__law_relation : FnScope ["_law_size", "_law_facts_here", "_law_one", "_law_other", "_law_labels", "_law_more"] ["_law_size", "_law_facts_here", "_law_one", "_law_other"] (defScope s__law_relation) := ⟨rfl, rfl, rfl, by decide +kernel, rfl, by decide +kernel, by decide +kernel⟩
theorem fn__law_relation (T : Tx K mg) : ∃ fd, FnG P w K mg base 5 (He.ga K "_law_relation") fd ["_law_size", "_law_facts_here", "_law_one", "_law_other"] (spQ K mg g sp__law_relation) ∧ FunD K "_law_relation" "_law_relation" (defArgs s__law_relation) (defBody s__law_relation) (defScope s__law_relation) [] [] (He.ga K "_law_relation") fd := by
  have sc := sc__law_relation
  have C__law_finest : Cal P w K mg base g 4 "_law_finest" [] sp__law_finest := cal__law_finest T
  obtain ⟨fd, Fn⟩ := T.f__law_relation
  refine ⟨fd, fn_q g Fn sc (by decide) (fun as k x h => ?_) fun cdv A outer s H E hgd hr => ?_, Fn⟩
  · unfold sp__law_relation at h; first | (split at h <;> first | rfl | exact h.elim) | (obtain ⟨_, rfl, _⟩ := h; rfl) | (obtain ⟨_, _, rfl, _⟩ := h; rfl) | (obtain ⟨_, _, _, rfl, _⟩ := h; rfl) | (obtain ⟨_, _, _, _, rfl, _⟩ := h; rfl) | (obtain ⟨_, _, _, _, _, rfl, _⟩ := h; rfl) | (obtain ⟨_, _, _, _, _, _, rfl, _⟩ := h; rfl)
  · have tk : Takes (cxOf (L2.CX P w) P w K mg base ["_law_size", "_law_facts_here", "_law_one", "_law_other", "_law_labels", "_law_more"] "_law_relation" (defScope s__law_relation) (He.ga K "_law_relation") cdv A outer s H E) (fun cls d _ H => E cls d H) := takes_of rfl rfl rfl rfl
    refine ⟨_, _, (qs_cons (qs_setN (i := 4) (by exact sc.nd) (by exact rfl) (Or.inl rfl) (qn_call [.bor, .bor] C__law_finest (by exact hgd) (by exact hr) (by omega) (by exact rfl) (qa_cons (q_var 0) (qa_cons (q_var 1) qa_nil (by rfl)) (by rfl)) (by decide) (by rfl) (by rfl)) (by rfl) (by first | exact .inl rfl | exact .inr rfl | assumption))
      (qs_cons (qs_if (qt_cmp op_isN o_is (q_var 4) q_non (by first | exact nomark _ | rfl)) (qs_one (qs_ret q_str)) qs_nil)
      (qs_cons (qs_if (qt_cmp (or_eqQ (by exact hr.units)) o_eq (q_ix ix_Q o_ix (q_var 4) (q_var 2) (by exact fun _ _ => rfl)) (q_ix ix_Q o_ix (q_var 4) (q_var 3) (by exact fun _ _ => rfl)) (by first | exact nomark _ | rfl)) (qs_one (qs_ret q_str)) qs_nil)
      (qs_cons (qs_setN (i := 5) (by exact sc.nd) (by exact rfl) (Or.inl rfl) (qn_opR or_addQ o_add (QN.qe (qn_ty call_list_of c_list (by exact rfl) T.z_list (by decide +kernel) (qa_cons (q_var 1) qa_nil (by rfl)) (by decide) (by decide) (by rfl) (by rfl))) (QN.qe (qn_lst (qa_cons (q_tup (qa_cons q_str (qa_cons (q_var 2) (qa_cons (q_var 3) qa_nil (by rfl)) (by rfl)) (by rfl))) qa_nil (by rfl))))) (by rfl) (by first | exact .inl rfl | exact .inr rfl | assumption))
      (qs_one (qs_ret (q_ifExp (qt_cmp op_isN o_is (QN.qe (qn_call [.bor, .bor] C__law_finest (by exact hgd) (by exact hr) (by omega) (by exact rfl) (qa_cons (q_var 0) (qa_cons (q_var 5) qa_nil (by rfl)) (by rfl)) (by decide) (by rfl) (by rfl))) q_non (by first | exact nomark _ | rfl)) q_str q_str))))))), fun as k x h => ?_⟩
    clear tk hr hgd Fn sc T
    obtain ⟨n, fc, ds, i, j, rfl, ⟨hfc, hds, hok, n2, hl, hi, hj⟩, hn, h⟩ := h
    walk_at "q"
    refine ⟨n, fc, ds, rfl, ⟨hfc, hds, hok, n2, by omega⟩, fun hno => ?_, fun L hL fL => ?_⟩
    · walk_at "q"
      exact hn hno
    walk_at "q"
    have hLl := hL.len
    obtain ⟨a, ha⟩ : ∃ a, L[i]? = some a := ⟨_, List.getElem?_eq_getElem (by omega)⟩
    obtain ⟨b, hb⟩ : ∃ b, L[j]? = some b := ⟨_, List.getElem?_eq_getElem (by omega)⟩
    refine ix_ints (by omega) (by omega) fun x hx => ?_
    walk_at "q"
    refine ix_ints (by omega) (by omega) fun y hy => ?_
    walk_at "q"
    rw [Int.toNat_natCast] at hx hy
    refine cIf_i (fun e => ?_) (fun e => ?_)
    · walk_at "q"
      exact h "same" (.same L fL fun u hu => hL.all hu hi hj (by rw [hx, hy, e]))
    have ne : L[i]? ≠ L[j]? := fun z => e (Option.some.inj ((hx.symm.trans z).trans hy))
    have ok2 : ∀ f ∈ fc ++ [.same i j], FcOk n f := fun f hf => by
      rcases List.mem_append.mp hf with hf | hf
      · exact hok f hf
      · cases List.mem_singleton.mp hf
        exact ⟨hi, hj, fun z => ne (by rw [z])⟩
    walk_at "q"
    refine ⟨by omega, n, fc ++ [.same i j], _, rfl, ⟨hfc.append (.cons (.tup .same) .nil), fun d hd => ?_, ok2, n2, by rw [List.length_append]; show _ + 1 ≤ _; omega⟩, fun hno => ?_, fun M hM fM => ?_⟩
    · rcases List.mem_append.mp hd with hd | hd
      · exact hds d hd
      · exact ⟨_, List.mem_singleton.mp hd, winl_i rfl⟩
    · walk_at "q"
      exact h "different" (.diff L fL fun u hu hs => hno u (fit_same.mpr ⟨hu, hs⟩))
    have fM := fit_same.mp fM
    walk_at "q"
    exact h "unknown" (.unk M L fM.1 fM.2 fL ne)
theorem cal__law_relation (T : Tx K mg) : Cal P w K mg base g 5 "_law_relation" [] sp__law_relation := by
  obtain ⟨fd, G, Fn⟩ := fn__law_relation (P := P) (w := w) (base := base) (g := g) T
  exact ⟨_, fd, _, [], G, T.g__law_relation, Fn.kp, Fn.bindsN fun _ _ _ _ _ _ us hl => match us, hl with | [_, _, _, _], _ => rfl, .nil, rfl⟩
end

/-! ### _law_asked -/
def sp__law_asked : Spq := fun as k x => ∃ (n : Nat) (fc : List Fc) (ds : List D) (d : D) (i j : Nat), as = [.bor (.int n), .bor d, .bor (.int i), .bor (.int j)] ∧ ((d = .lst ds ∨ d = .tup ds) ∧ FcsAt fc ds ∧ (∀ f ∈ fc, FcOk n f) ∧ 1 ≤ n ∧ n ≤ 60 ∧ ds.length ≤ 40 ∧ i < n ∧ j < n) ∧ ((∀ u, ¬ Fit n fc u) → k (.sh (.str (Str.ofString "none")))) ∧ ∀ s : String, Rel2 n fc i j s → k (.sh (.str (Str.ofString s)))
section
variable {P : Program} {w : World} {K : Fg} {mg : Str → Option Value} {base : Heap} {g : Gd}
theorem sc__law_asked : FnScope ["_law_size", "_law_facts_here", "_law_one", "_law_other"] ["_law_size", "_law_facts_here", "_law_one", "_law_other"] (defScope s__law_asked) := ⟨rfl, rfl, rfl, by decide +kernel, rfl, by decide +kernel, by decide +kernel⟩
theorem fn__law_asked (T : Tx K mg) : ∃ fd, FnG P w K mg base 8 (He.ga K "_law_asked") fd ["_law_size", "_law_facts_here", "_law_one", "_law_other"] (spQ K mg g sp__law_asked) ∧ FunD K "_law_asked" "_law_asked" (defArgs s__law_asked) (defBody s__law_asked) (defScope s__law_asked) [] [] (He.ga K "_law_asked") fd := by
  have sc := sc__law_asked
  have C_relation : Cal P w K mg base g 7 "relation" [] sp_relation := cal_relation T
  obtain ⟨fd, Fn⟩ := T.f__law_asked
  refine ⟨fd, fn_q g Fn sc (by decide) (fun as k x h => ?_) fun cdv A outer s H E hgd hr => ?_, Fn⟩
  · unfold sp__law_asked at h; first | (split at h <;> first | rfl | exact h.elim) | (obtain ⟨_, rfl, _⟩ := h; rfl) | (obtain ⟨_, _, rfl, _⟩ := h; rfl) | (obtain ⟨_, _, _, rfl, _⟩ := h; rfl) | (obtain ⟨_, _, _, _, rfl, _⟩ := h; rfl) | (obtain ⟨_, _, _, _, _, rfl, _⟩ := h; rfl) | (obtain ⟨_, _, _, _, _, _, rfl, _⟩ := h; rfl)
  · have tk : Takes (cxOf (L2.CX P w) P w K mg base ["_law_size", "_law_facts_here", "_law_one", "_law_other"] "_law_asked" (defScope s__law_asked) (He.ga K "_law_asked") cdv A outer s H E) (fun cls d _ H => E cls d H) := takes_of rfl rfl rfl rfl
    refine ⟨_, _, (qs_one (qs_tryC (names := exN) (ct := fun nm => subE nm "Inconsistent") (v := .str (Str.ofString "none")) (d := .str (Str.ofString "none")) (by exact rfl) (by exact rfl) ⟨(by exact rfl), (by decide), .inl (T.xw.gl "Inconsistent" (by decide +kernel))⟩ tk (T.xw.caught (by decide +kernel) (by decide +kernel)) (fun W pn xe tk =>
      (qs_one (qs_retN (qn_callS [.bor, .bor, .bor, .bor] C_relation (by exact hgd) (by exact hr) (by omega) tk (by exact rfl) (qa_cons (q_var 0) (qa_cons (q_var 1) (qa_cons (q_var 2) (qa_cons (q_var 3) qa_nil (by rfl)) (by rfl)) (by rfl)) (by rfl)) (by decide) (by rfl) (by rfl))))) (fun _ => pe_str) rfl (by exact fun _ _ _ => rfl))), fun as k x h => ?_⟩
    clear tk hr hgd Fn sc T
    obtain ⟨n, fc, ds, d, i, j, rfl, hh, hx, h⟩ := h
    walk_at "q"
    refine ⟨n, fc, ds, d, i, j, rfl, hh, fun hn => ?_, fun s hs => ?_⟩
    · rw [hold2]
      exact ⟨by decide +kernel, cIf_l (by decide +kernel) (hx hn)⟩
    · walk_at "q"
      exact h s hs
theorem cal__law_asked (T : Tx K mg) : Cal P w K mg base g 8 "_law_asked" [] sp__law_asked := by
  obtain ⟨fd, G, Fn⟩ := fn__law_asked (P := P) (w := w) (base := base) (g := g) T
  exact ⟨_, fd, _, [], G, T.g__law_asked, Fn.kp, Fn.bindsN fun _ _ _ _ _ _ us hl => match us, hl with | [_, _, _, _], _ => rfl, .nil, rfl⟩
end

/-! ### law -/
theorem okSame_l {u : List Int} (h : u.length ≤ 400) : okSame 5 (.lst ((dist u).map .int)) = true := by
  show (decide (((dist u).map D.int).length < 1000000) && ((dist u).map D.int).all (okSame 4)) = true
  rw [List.length_map, dist_length, decide_eq_true (by omega), Bool.true_and, List.all_map]
  exact List.all_eq_true.mpr fun _ _ => rfl
section
variable {P : Program} {w : World} {K : Fg} {mg : Str → Option Value} {base : Heap}
theorem sc_law : FnScope ["_law_script", "_law_spring_here", "_law_turn", "_law_is_large", "_law_size", "_law_kinds", "_law_symbols_here", "_law_facts_here", "_law_labels", "_law_due", "_law_handed", "_law_broken", "_law_again", "_law_many", "_law_start", "_law_others", "_law_place", "_law_fact_here", "_law_one", "_law_other", "_law_k"] ["_law_script"] (defScope s_law) := ⟨rfl, rfl, rfl, by decide +kernel, rfl, by decide +kernel, by decide +kernel⟩
end

def d_is_integer_distances : He.DefD := ⟨("is_integer_distances", none), "is_integer", "is_integer", defArgs s_is_integer_distances, defBody s_is_integer_distances, defScope s_is_integer_distances, [.non], []⟩
def d_is_sequence_distances : He.DefD := ⟨("is_sequence_distances", none), "is_sequence", "is_sequence", defArgs s_is_sequence_distances, defBody s_is_sequence_distances, defScope s_is_sequence_distances, [], []⟩
def d_is_distances : He.DefD := ⟨("is_distances", none), "is_distances", "is_distances", defArgs s_is_distances, defBody s_is_distances, defScope s_is_distances, [], []⟩
def d_is_integer_facts : He.DefD := ⟨("is_integer_facts", none), "is_integer", "is_integer", defArgs s_is_integer_facts, defBody s_is_integer_facts, defScope s_is_integer_facts, [], []⟩
def d_is_sequence_facts : He.DefD := ⟨("is_sequence_facts", none), "is_sequence", "is_sequence", defArgs s_is_sequence_facts, defBody s_is_sequence_facts, defScope s_is_sequence_facts, [], []⟩
def d_check_size : He.DefD := ⟨("check_size", none), "check_size", "check_size", defArgs s_check_size, defBody s_check_size, defScope s_check_size, [], []⟩
def d_are_two_positions : He.DefD := ⟨("are_two_positions", none), "are_two_positions", "are_two_positions", defArgs s_are_two_positions, defBody s_are_two_positions, defScope s_are_two_positions, [], []⟩
def d_is_fact_of : He.DefD := ⟨("is_fact_of", none), "is_fact_of", "is_fact_of", defArgs s_is_fact_of, defBody s_is_fact_of, defScope s_is_fact_of, [], []⟩
def d_checked_facts : He.DefD := ⟨("checked_facts", none), "checked_facts", "checked_facts", defArgs s_checked_facts, defBody s_checked_facts, defScope s_checked_facts, [], []⟩
def d_check_positions : He.DefD := ⟨("check_positions", none), "check_positions", "check_positions", defArgs s_check_positions, defBody s_check_positions, defScope s_check_positions, [], []⟩
def d_distances_by : He.DefD := ⟨("distances_by", none), "distances_by", "distances_by", defArgs s_distances_by, defBody s_distances_by, defScope s_distances_by, [], []⟩
def d_linked_offsets : He.DefD := ⟨("linked_offsets", none), "linked_offsets", "linked_offsets", defArgs s_linked_offsets, defBody s_linked_offsets, defScope s_linked_offsets, [], []⟩
def d_representatives : He.DefD := ⟨("representatives", none), "representatives", "representatives", defArgs s_representatives, defBody s_representatives, defScope s_representatives, [], []⟩
def d_Partition_merge : He.DefD := ⟨("Partition", some "merge"), "merge", "Partition.merge", defArgs s_Partition_merge, defBody s_Partition_merge, defScope s_Partition_merge, [], []⟩
def d_Partition_copy_links : He.DefD := ⟨("Partition", some "copy_links"), "copy_links", "Partition.copy_links", defArgs s_Partition_copy_links, defBody s_Partition_copy_links, defScope s_Partition_copy_links, [], []⟩
def d_Partition_copy_both_ways : He.DefD := ⟨("Partition", some "copy_both_ways"), "copy_both_ways", "Partition.copy_both_ways", defArgs s_Partition_copy_both_ways, defBody s_Partition_copy_both_ways, defScope s_Partition_copy_both_ways, [], []⟩
def d_Partition_are_equal : He.DefD := ⟨("Partition", some "are_equal"), "are_equal", "Partition.are_equal", defArgs s_Partition_are_equal, defBody s_Partition_are_equal, defScope s_Partition_are_equal, [], []⟩
def d_Partition_distances : He.DefD := ⟨("Partition", some "distances"), "distances", "Partition.distances", defArgs s_Partition_distances, defBody s_Partition_distances, defScope s_Partition_distances, [], []⟩
def d_Partition___init__ : He.DefD := ⟨("Partition", some "__init__"), "__init__", "Partition.__init__", defArgs s_Partition___init__, defBody s_Partition___init__, defScope s_Partition___init__, [], []⟩
def d_window_symbols : He.DefD := ⟨("window_symbols", none), "window_symbols", "window_symbols", defArgs s_window_symbols, defBody s_window_symbols, defScope s_window_symbols, [], []⟩
def d_states_different : He.DefD := ⟨("states_different", none), "states_different", "states_different", defArgs s_states_different, defBody s_states_different, defScope s_states_different, [], []⟩
def d_violated_pair : He.DefD := ⟨("violated_pair", none), "violated_pair", "violated_pair", defArgs s_violated_pair, defBody s_violated_pair, defScope s_violated_pair, [], []⟩
def d_consistent_partition : He.DefD := ⟨("consistent_partition", none), "consistent_partition", "consistent_partition", defArgs s_consistent_partition, defBody s_consistent_partition, defScope s_consistent_partition, [], []⟩
def d_is_consistent : He.DefD := ⟨("is_consistent", none), "is_consistent", "is_consistent", defArgs s_is_consistent, defBody s_is_consistent, defScope s_is_consistent, [], []⟩
def d_finest_list : He.DefD := ⟨("finest_list", none), "finest_list", "finest_list", defArgs s_finest_list, defBody s_finest_list, defScope s_finest_list, [], []⟩
def d_relation : He.DefD := ⟨("relation", none), "relation", "relation", defArgs s_relation, defBody s_relation, defScope s_relation, [], []⟩
def d__law_spring : He.DefD := ⟨("_law_spring", none), "_law_spring", "_law_spring", defArgs s__law_spring, defBody s__law_spring, defScope s__law_spring, [], []⟩
def d__law_draw : He.DefD := ⟨("_law_draw", none), "_law_draw", "_law_draw", defArgs s__law_draw, defBody s__law_draw, defScope s__law_draw, [], []⟩
def d__law_same : He.DefD := ⟨("_law_same", none), "_law_same", "_law_same", defArgs s__law_same, defBody s__law_same, defScope s__law_same, [], []⟩
def d__law_symbols : He.DefD := ⟨("_law_symbols", none), "_law_symbols", "_law_symbols", defArgs s__law_symbols, defBody s__law_symbols, defScope s__law_symbols, [], []⟩
def d__law_distances : He.DefD := ⟨("_law_distances", none), "_law_distances", "_law_distances", defArgs s__law_distances, defBody s__law_distances, defScope s__law_distances, [], []⟩
def d__law_window : He.DefD := ⟨("_law_window", none), "_law_window", "_law_window", defArgs s__law_window, defBody s__law_window, defScope s__law_window, [], []⟩
def d__law_fact : He.DefD := ⟨("_law_fact", none), "_law_fact", "_law_fact", defArgs s__law_fact, defBody s__law_fact, defScope s__law_fact, [], []⟩
def d__law_facts : He.DefD := ⟨("_law_facts", none), "_law_facts", "_law_facts", defArgs s__law_facts, defBody s__law_facts, defScope s__law_facts, [], []⟩
def d__law_holds : He.DefD := ⟨("_law_holds", none), "_law_holds", "_law_holds", defArgs s__law_holds, defBody s__law_holds, defScope s__law_holds, [], []⟩
def d__law_dressed_facts : He.DefD := ⟨("_law_dressed_facts", none), "_law_dressed_facts", "_law_dressed_facts", defArgs s__law_dressed_facts, defBody s__law_dressed_facts, defScope s__law_dressed_facts, [], []⟩
def d__law_closure : He.DefD := ⟨("_law_closure", none), "_law_closure", "_law_closure", defArgs s__law_closure, defBody s__law_closure, defScope s__law_closure, [], []⟩
def d__law_finest : He.DefD := ⟨("_law_finest", none), "_law_finest", "_law_finest", defArgs s__law_finest, defBody s__law_finest, defScope s__law_finest, [], []⟩
def d__law_relation : He.DefD := ⟨("_law_relation", none), "_law_relation", "_law_relation", defArgs s__law_relation, defBody s__law_relation, defScope s__law_relation, [], []⟩
def d__law_asked : He.DefD := ⟨("_law_asked", none), "_law_asked", "_law_asked", defArgs s__law_asked, defBody s__law_asked, defScope s__law_asked, [], []⟩
def d_law : He.DefD := ⟨("law", none), "law", "law", defArgs s_law, defBody s_law, defScope s_law, [], []⟩
def fn : List He.DefD := [d_is_integer_distances, d_is_sequence_distances, d_is_distances, d_is_integer_facts, d_is_sequence_facts, d_check_size, d_are_two_positions, d_is_fact_of, d_checked_facts, d_check_positions, d_distances_by, d_linked_offsets, d_representatives, d_Partition_merge, d_Partition_copy_links, d_Partition_copy_both_ways, d_Partition_are_equal, d_Partition_distances, d_Partition___init__, d_window_symbols, d_states_different, d_violated_pair, d_consistent_partition, d_is_consistent, d_finest_list, d_relation, d__law_spring, d__law_draw, d__law_same, d__law_symbols, d__law_distances, d__law_window, d__law_fact, d__law_facts, d__law_holds, d__law_dressed_facts, d__law_closure, d__law_finest, d__law_relation, d__law_asked, d_law]
def fa : List He.Fa := [.glo "is_integer_distances", .glo "is_sequence_distances", .glo "is_distances", .glo "is_integer_facts", .glo "is_sequence_facts", .glo "check_size", .glo "are_two_positions", .glo "is_fact_of", .glo "checked_facts", .glo "check_positions", .glo "distances_by", .glo "linked_offsets", .glo "representatives", .meth "Partition" "merge", .meth "Partition" "copy_links", .meth "Partition" "copy_both_ways", .meth "Partition" "are_equal", .meth "Partition" "distances", .meth "Partition" "__init__", .glo "window_symbols", .glo "states_different", .glo "violated_pair", .glo "consistent_partition", .glo "is_consistent", .glo "finest_list", .glo "relation", .glo "_law_spring", .glo "_law_draw", .glo "_law_same", .glo "_law_symbols", .glo "_law_distances", .glo "_law_window", .glo "_law_fact", .glo "_law_facts", .glo "_law_holds", .glo "_law_dressed_facts", .glo "_law_closure", .glo "_law_finest", .glo "_law_relation", .glo "_law_asked", .glo "law", .glo "Partition", .mkr "Partition", .noat "Partition" "leaders", .free "abs", .free "all", .free "any", .free "bool", .free "enumerate", .free "int", .free "isinstance", .free "len", .free "list", .free "max", .free "min", .free "range", .free "set", .free "sorted", .free "str", .free "tuple", .str "DIFFERENT" (Str.ofString "different"), .str "EQUIVALENT" (Str.ofString "equivalent"), .int "MAX_FACTS" 40, .int "MAX_POSITIONS" 400, .int "MAX_SIZE" 60, .str "SAME" (Str.ofString "same"), .str "UNKNOWN" (Str.ofString "unknown"), .str "WINDOW" (Str.ofString "window"), .glo "Inconsistent", .exc "Inconsistent", .glo "InvalidFacts", .exc "InvalidFacts", .glo "InvalidNumber", .exc "InvalidNumber", .glo "InvalidPosition", .exc "InvalidPosition"]
abbrev R : PySem.W.OpenRow := PySem.W.OpenLaw.row PySem.Challenge.rw_howfarback_k43_what_follows_from_facts
def bxB (K : Fg) : Bool := Q.excB exN exY K && Q.objB obN K
abbrev hk : PySem.W.Hook := Q.hookE 4 fa fn bxB
def ob (s : PySem.W.SharedT) : Q.AlE := Q.obsE 4 fa fn bxB (HandSHeadRun.getT s)
theorem ob_eq (s : PySem.W.SharedT) : ob s = hk.obs s.abs := Q.obsE_eq (HandSHeadRun.getT_eq s)
def lo : List Str := ((["__name__", "HowFarBackError", "InvalidPosition", "InvalidNumber", "InvalidFacts", "Inconsistent", "MAX_POSITIONS", "is_integer", "is_integer_distances", "is_sequence", "is_sequence_distances", "is_distances", "SAME", "DIFFERENT", "EQUIVALENT", "WINDOW", "UNKNOWN", "MAX_SIZE", "MAX_FACTS", "is_integer_facts", "is_sequence_facts", "check_size", "are_two_positions", "is_fact_of", "checked_facts", "check_positions", "distances_by", "linked_offsets", "representatives", "Partition"] : List Str) ++ (["window_symbols", "states_different", "violated_pair", "consistent_partition", "is_consistent", "finest_list", "relation", "_law_spring", "_law_draw", "_law_same", "_law_symbols", "_law_distances", "_law_window", "_law_fact", "_law_facts", "_law_holds", "_law_dressed_facts", "_law_closure", "_law_finest", "_law_relation", "_law_asked"] : List Str))
theorem run (w : World) : HandSHeadRun.RunEq R (PySem.W.view R.prog [56]) hk ob 20000 lo w := by
  intro os
  kernel_rfl
theorem tx {K : Fg} {h : Heap} {mg : Str → Option Value} (X : K.In h) (G : h.Ns mainGlobals mg) (c : He.SaysD fa fn K) (cx : bxB K = true) : Tx K mg where
  g_is_integer_distances := He.glo_ok X G (c.fact 0 (f := .glo "is_integer_distances") rfl)
  f_is_integer_distances := c.def_ 0 (d := d_is_integer_distances) rfl
  g_is_sequence_distances := He.glo_ok X G (c.fact 1 (f := .glo "is_sequence_distances") rfl)
  f_is_sequence_distances := c.def_ 1 (d := d_is_sequence_distances) rfl
  g_is_distances := He.glo_ok X G (c.fact 2 (f := .glo "is_distances") rfl)
  f_is_distances := c.def_ 2 (d := d_is_distances) rfl
  g_is_integer_facts := He.glo_ok X G (c.fact 3 (f := .glo "is_integer_facts") rfl)
  f_is_integer_facts := c.def_ 3 (d := d_is_integer_facts) rfl
  g_is_sequence_facts := He.glo_ok X G (c.fact 4 (f := .glo "is_sequence_facts") rfl)
  f_is_sequence_facts := c.def_ 4 (d := d_is_sequence_facts) rfl
  g_check_size := He.glo_ok X G (c.fact 5 (f := .glo "check_size") rfl)
  f_check_size := c.def_ 5 (d := d_check_size) rfl
  g_are_two_positions := He.glo_ok X G (c.fact 6 (f := .glo "are_two_positions") rfl)
  f_are_two_positions := c.def_ 6 (d := d_are_two_positions) rfl
  g_is_fact_of := He.glo_ok X G (c.fact 7 (f := .glo "is_fact_of") rfl)
  f_is_fact_of := c.def_ 7 (d := d_is_fact_of) rfl
  g_checked_facts := He.glo_ok X G (c.fact 8 (f := .glo "checked_facts") rfl)
  f_checked_facts := c.def_ 8 (d := d_checked_facts) rfl
  g_check_positions := He.glo_ok X G (c.fact 9 (f := .glo "check_positions") rfl)
  f_check_positions := c.def_ 9 (d := d_check_positions) rfl
  g_distances_by := He.glo_ok X G (c.fact 10 (f := .glo "distances_by") rfl)
  f_distances_by := c.def_ 10 (d := d_distances_by) rfl
  g_linked_offsets := He.glo_ok X G (c.fact 11 (f := .glo "linked_offsets") rfl)
  f_linked_offsets := c.def_ 11 (d := d_linked_offsets) rfl
  g_representatives := He.glo_ok X G (c.fact 12 (f := .glo "representatives") rfl)
  f_representatives := c.def_ 12 (d := d_representatives) rfl
  m_Partition_merge := He.meth_ok (c.fact 13 (f := .meth "Partition" "merge") rfl)
  f_Partition_merge := c.def_ 13 (d := d_Partition_merge) rfl
  m_Partition_copy_links := He.meth_ok (c.fact 14 (f := .meth "Partition" "copy_links") rfl)
  f_Partition_copy_links := c.def_ 14 (d := d_Partition_copy_links) rfl
  m_Partition_copy_both_ways := He.meth_ok (c.fact 15 (f := .meth "Partition" "copy_both_ways") rfl)
  f_Partition_copy_both_ways := c.def_ 15 (d := d_Partition_copy_both_ways) rfl
  m_Partition_are_equal := He.meth_ok (c.fact 16 (f := .meth "Partition" "are_equal") rfl)
  f_Partition_are_equal := c.def_ 16 (d := d_Partition_are_equal) rfl
  m_Partition_distances := He.meth_ok (c.fact 17 (f := .meth "Partition" "distances") rfl)
  f_Partition_distances := c.def_ 17 (d := d_Partition_distances) rfl
  m_Partition___init__ := He.meth_ok (c.fact 18 (f := .meth "Partition" "__init__") rfl)
  f_Partition___init__ := c.def_ 18 (d := d_Partition___init__) rfl
  g_window_symbols := He.glo_ok X G (c.fact 19 (f := .glo "window_symbols") rfl)
  f_window_symbols := c.def_ 19 (d := d_window_symbols) rfl
  g_states_different := He.glo_ok X G (c.fact 20 (f := .glo "states_different") rfl)
  f_states_different := c.def_ 20 (d := d_states_different) rfl
  g_violated_pair := He.glo_ok X G (c.fact 21 (f := .glo "violated_pair") rfl)
  f_violated_pair := c.def_ 21 (d := d_violated_pair) rfl
  g_consistent_partition := He.glo_ok X G (c.fact 22 (f := .glo "consistent_partition") rfl)
  f_consistent_partition := c.def_ 22 (d := d_consistent_partition) rfl
  g_is_consistent := He.glo_ok X G (c.fact 23 (f := .glo "is_consistent") rfl)
  f_is_consistent := c.def_ 23 (d := d_is_consistent) rfl
  g_finest_list := He.glo_ok X G (c.fact 24 (f := .glo "finest_list") rfl)
  f_finest_list := c.def_ 24 (d := d_finest_list) rfl
  g_relation := He.glo_ok X G (c.fact 25 (f := .glo "relation") rfl)
  f_relation := c.def_ 25 (d := d_relation) rfl
  g__law_spring := He.glo_ok X G (c.fact 26 (f := .glo "_law_spring") rfl)
  f__law_spring := c.def_ 26 (d := d__law_spring) rfl
  g__law_draw := He.glo_ok X G (c.fact 27 (f := .glo "_law_draw") rfl)
  f__law_draw := c.def_ 27 (d := d__law_draw) rfl
  g__law_same := He.glo_ok X G (c.fact 28 (f := .glo "_law_same") rfl)
  f__law_same := c.def_ 28 (d := d__law_same) rfl
  g__law_symbols := He.glo_ok X G (c.fact 29 (f := .glo "_law_symbols") rfl)
  f__law_symbols := c.def_ 29 (d := d__law_symbols) rfl
  g__law_distances := He.glo_ok X G (c.fact 30 (f := .glo "_law_distances") rfl)
  f__law_distances := c.def_ 30 (d := d__law_distances) rfl
  g__law_window := He.glo_ok X G (c.fact 31 (f := .glo "_law_window") rfl)
  f__law_window := c.def_ 31 (d := d__law_window) rfl
  g__law_fact := He.glo_ok X G (c.fact 32 (f := .glo "_law_fact") rfl)
  f__law_fact := c.def_ 32 (d := d__law_fact) rfl
  g__law_facts := He.glo_ok X G (c.fact 33 (f := .glo "_law_facts") rfl)
  f__law_facts := c.def_ 33 (d := d__law_facts) rfl
  g__law_holds := He.glo_ok X G (c.fact 34 (f := .glo "_law_holds") rfl)
  f__law_holds := c.def_ 34 (d := d__law_holds) rfl
  g__law_dressed_facts := He.glo_ok X G (c.fact 35 (f := .glo "_law_dressed_facts") rfl)
  f__law_dressed_facts := c.def_ 35 (d := d__law_dressed_facts) rfl
  g__law_closure := He.glo_ok X G (c.fact 36 (f := .glo "_law_closure") rfl)
  f__law_closure := c.def_ 36 (d := d__law_closure) rfl
  g__law_finest := He.glo_ok X G (c.fact 37 (f := .glo "_law_finest") rfl)
  f__law_finest := c.def_ 37 (d := d__law_finest) rfl
  g__law_relation := He.glo_ok X G (c.fact 38 (f := .glo "_law_relation") rfl)
  f__law_relation := c.def_ 38 (d := d__law_relation) rfl
  g__law_asked := He.glo_ok X G (c.fact 39 (f := .glo "_law_asked") rfl)
  f__law_asked := c.def_ 39 (d := d__law_asked) rfl
  g_law := He.glo_ok X G (c.fact 40 (f := .glo "law") rfl)
  f_law := c.def_ 40 (d := d_law) rfl
  g_Partition := He.glo_ok X G (c.fact 41 (f := .glo "Partition") rfl)
  o_Partition := Q.objB_ok (Bool.and_eq_true_iff.mp cx).2 "Partition" (by decide +kernel)
  k_Partition := He.mkr_ok (c.fact 42 (f := .mkr "Partition") rfl)
  n_Partition_leaders := He.noat_ok (c.fact 43 (f := .noat "Partition" "leaders") rfl)
  z_abs := He.free_ok X G (c.fact 44 (f := .free "abs") rfl)
  z_all := He.free_ok X G (c.fact 45 (f := .free "all") rfl)
  z_any := He.free_ok X G (c.fact 46 (f := .free "any") rfl)
  z_bool := He.free_ok X G (c.fact 47 (f := .free "bool") rfl)
  z_enumerate := He.free_ok X G (c.fact 48 (f := .free "enumerate") rfl)
  z_int := He.free_ok X G (c.fact 49 (f := .free "int") rfl)
  z_isinstance := He.free_ok X G (c.fact 50 (f := .free "isinstance") rfl)
  z_len := He.free_ok X G (c.fact 51 (f := .free "len") rfl)
  z_list := He.free_ok X G (c.fact 52 (f := .free "list") rfl)
  z_max := He.free_ok X G (c.fact 53 (f := .free "max") rfl)
  z_min := He.free_ok X G (c.fact 54 (f := .free "min") rfl)
  z_range := He.free_ok X G (c.fact 55 (f := .free "range") rfl)
  z_set := He.free_ok X G (c.fact 56 (f := .free "set") rfl)
  z_sorted := He.free_ok X G (c.fact 57 (f := .free "sorted") rfl)
  z_str := He.free_ok X G (c.fact 58 (f := .free "str") rfl)
  z_tuple := He.free_ok X G (c.fact 59 (f := .free "tuple") rfl)
  c_DIFFERENT := He.str_ok X G (c.fact 60 (f := .str "DIFFERENT" (Str.ofString "different")) rfl)
  c_EQUIVALENT := He.str_ok X G (c.fact 61 (f := .str "EQUIVALENT" (Str.ofString "equivalent")) rfl)
  c_MAX_FACTS := He.int_ok X G (c.fact 62 (f := .int "MAX_FACTS" 40) rfl)
  c_MAX_POSITIONS := He.int_ok X G (c.fact 63 (f := .int "MAX_POSITIONS" 400) rfl)
  c_MAX_SIZE := He.int_ok X G (c.fact 64 (f := .int "MAX_SIZE" 60) rfl)
  c_SAME := He.str_ok X G (c.fact 65 (f := .str "SAME" (Str.ofString "same")) rfl)
  c_UNKNOWN := He.str_ok X G (c.fact 66 (f := .str "UNKNOWN" (Str.ofString "unknown")) rfl)
  c_WINDOW := He.str_ok X G (c.fact 67 (f := .str "WINDOW" (Str.ofString "window")) rfl)
  e_Inconsistent := by
    have z := He.exc_ok (c.fact 69 (f := .exc "Inconsistent") rfl)
    exact ⟨He.glo_ok X G (c.fact 68 (f := .glo "Inconsistent") rfl), z.1, z.2.1, z.2.2.1, z.2.2.2⟩
  e_InvalidFacts := by
    have z := He.exc_ok (c.fact 71 (f := .exc "InvalidFacts") rfl)
    exact ⟨He.glo_ok X G (c.fact 70 (f := .glo "InvalidFacts") rfl), z.1, z.2.1, z.2.2.1, z.2.2.2⟩
  e_InvalidNumber := by
    have z := He.exc_ok (c.fact 73 (f := .exc "InvalidNumber") rfl)
    exact ⟨He.glo_ok X G (c.fact 72 (f := .glo "InvalidNumber") rfl), z.1, z.2.1, z.2.2.1, z.2.2.2⟩
  e_InvalidPosition := by
    have z := He.exc_ok (c.fact 75 (f := .exc "InvalidPosition") rfl)
    exact ⟨He.glo_ok X G (c.fact 74 (f := .glo "InvalidPosition") rfl), z.1, z.2.1, z.2.2.1, z.2.2.2⟩
  xw := Q.excB_ok X G (Bool.and_eq_true_iff.mp cx).1
theorem ok_law {P : Program} {w : World} {K : Fg} {mg : Str → Option Value} {base : Heap} (T : Tx K mg) : ∃ fd, FnG P w K mg base 9 (He.ga K "law") fd ["_law_script"] (spLaw K) ∧ FunD K "law" "law" (defArgs s_law) (defBody s_law) (defScope s_law) [] [] (He.ga K "law") fd := by
  have sc := sc_law
  have C__law_asked : Cal P w K mg base sprG 8 "_law_asked" [] sp__law_asked := cal__law_asked T
  have C__law_distances : Cal P w K mg base sprG 1 "_law_distances" [] sp__law_distances := cal__law_distances T
  have C__law_draw : Cal P w K mg base sprG 1 "_law_draw" [] sp__law_draw := cal__law_draw T
  have C__law_dressed_facts : Cal P w K mg base sprG 2 "_law_dressed_facts" [] sp__law_dressed_facts := cal__law_dressed_facts T
  have C__law_fact : Cal P w K mg base sprG 3 "_law_fact" [] sp__law_fact := cal__law_fact T
  have C__law_facts : Cal P w K mg base sprG 4 "_law_facts" [] sp__law_facts := cal__law_facts T
  have C__law_finest : Cal P w K mg base sprG 4 "_law_finest" [] sp__law_finest := cal__law_finest T
  have C__law_holds : Cal P w K mg base sprG 3 "_law_holds" [] sp__law_holds := cal__law_holds T
  have C__law_relation : Cal P w K mg base sprG 5 "_law_relation" [] sp__law_relation := cal__law_relation T
  have C__law_same : Cal P w K mg base sprG 6 "_law_same" [] sp__law_same := cal__law_same T
  have C__law_spring : Cal P w K mg base sprG 1 "_law_spring" [] sp__law_spring := cal__law_spring T
  have C__law_window : Cal P w K mg base sprG 2 "_law_window" [] sp__law_window := cal__law_window T
  have C_finest_list : Cal P w K mg base sprG 7 "finest_list" [] sp_finest_list := cal_finest_list T
  have C_is_consistent : Cal P w K mg base sprG 7 "is_consistent" [] sp_is_consistent := cal_is_consistent T
  obtain ⟨fd, Fn⟩ := T.f_law
  refine ⟨fd, law_q2 1 sprG (st := (defBody s_law).getD 0 (.Pass ⟨0, 0, 0, 0⟩)) (sts := (defBody s_law).tail) Fn sc rfl (by decide) fun cdv A outer s H E hgd hr => ?_, Fn⟩
  have tk : Takes (cxOf (L2.CX P w) P w K mg base ["_law_script", "_law_spring_here", "_law_turn", "_law_is_large", "_law_size", "_law_kinds", "_law_symbols_here", "_law_facts_here", "_law_labels", "_law_due", "_law_handed", "_law_broken", "_law_again", "_law_many", "_law_start", "_law_others", "_law_place", "_law_fact_here", "_law_one", "_law_other", "_law_k"] "law" (defScope s_law) (He.ga K "law") cdv A outer s H E) W0 := takes0
  refine ⟨_, _, _, _, (qf_set (by exact sc.nd) (by exact rfl) (Or.inr rfl) (qn_call [.bor] C__law_spring (by exact hgd) (by exact hr) (by omega) (by exact rfl) (qa_cons (q_var 0) qa_nil (by rfl)) (by decide) (by rfl) (by rfl)) (by rfl) (by first | exact .inl rfl | exact .inr rfl | assumption)), (qs_cons (qs_for [2] (qi_range1 (by exact rfl) T.z_range (qa_cons (QN.qe (qn_opR or_addQ o_add q_int (q_callB (call_min2 (by exact rfl)) c_min (by exact rfl) T.z_min (by decide +kernel) (qa_cons (q_callB call_len c_len (by exact rfl) T.z_len (by decide +kernel) (qa_cons (q_var 0) qa_nil (by rfl)) (by decide) (by decide) (by rfl) (by rfl)) (qa_cons q_int qa_nil (by rfl)) (by rfl)) (by decide) (by decide) (by rfl) (by rfl)))) qa_nil (by rfl)) (by rfl)) (qg_name (i := 2) (by exact sc.nd) (by exact rfl) (by first | exact Or.inl rfl | exact Or.inr rfl) (by decide) (by first | exact .inl rfl | exact .inr rfl | assumption))
      (qs_cons (qs_set (i := 3) (by exact sc.nd) (by exact rfl) (Or.inl rfl) (q_and (q_cmp (or_eqQ (by exact hr.units)) o_eq (q_var 2) q_int (by first | exact nomark _ | rfl)) (q_one (q_cmp (or_eqQ (by exact hr.units)) o_eq (QN.qe (qn_call [.bag 0, .bor] C__law_draw (by exact hgd) (by exact hr) (by omega) (by exact rfl) (qa_cons (q_var 1) (qa_cons q_int qa_nil (by rfl)) (by rfl)) (by decide) (by rfl) (by rfl))) q_int (by first | exact nomark _ | rfl)))) (by rfl) (by first | exact .inl rfl | exact .inr rfl | assumption))
      (qs_cons (qs_setN (i := 4) (by exact sc.nd) (by exact rfl) (Or.inl rfl) (qn_opR or_addQ o_add q_int (QN.qe (qn_call [.bag 0, .bor] C__law_draw (by exact hgd) (by exact hr) (by omega) (by exact rfl) (qa_cons (q_var 1) (qa_cons q_int qa_nil (by rfl)) (by rfl)) (by decide) (by rfl) (by rfl)))) (by rfl) (by first | exact .inl rfl | exact .inr rfl | assumption))
      (qs_cons (qs_if (qt_val (q_var 3) (by intro _; rfl)) (qs_one (qs_set (i := 4) (by exact sc.nd) (by exact rfl) (Or.inl rfl) (q_ix ix_Q o_ix (QN.qe (qn_lst (qa_cons q_int (qa_cons (QN.qe (qn_opR or_addQ o_add q_int (QN.qe (qn_call [.bag 0, .bor] C__law_draw (by exact hgd) (by exact hr) (by omega) (by exact rfl) (qa_cons (q_var 1) (qa_cons q_int qa_nil (by rfl)) (by rfl)) (by decide) (by rfl) (by rfl))))) qa_nil (by rfl)) (by rfl)))) (QN.qe (qn_call [.bag 0, .bor] C__law_draw (by exact hgd) (by exact hr) (by omega) (by exact rfl) (qa_cons (q_var 1) (qa_cons q_int qa_nil (by rfl)) (by rfl)) (by decide) (by rfl) (by rfl))) (by exact fun _ _ => rfl)) (by rfl) (by first | exact .inl rfl | exact .inr rfl | assumption))) qs_nil)
      (qs_cons (qs_set (i := 5) (by exact sc.nd) (by exact rfl) (Or.inr rfl) (q_ix ix_Q o_ix (QN.qe (qn_lst (qa_cons q_int (qa_cons q_int (qa_cons q_int qa_nil (by rfl)) (by rfl)) (by rfl)))) (QN.qe (qn_call [.bag 0, .bor] C__law_draw (by exact hgd) (by exact hr) (by omega) (by exact rfl) (qa_cons (q_var 1) (qa_cons q_int qa_nil (by rfl)) (by rfl)) (by decide) (by rfl) (by rfl))) (by exact fun _ _ => rfl)) (by rfl) (by first | exact .inl rfl | exact .inr rfl | assumption))
      (qs_cons (qs_setN (i := 6) (by exact sc.nd) (by exact rfl) (Or.inr rfl) (qn_lcB [("_law_place", 16)] (by exact rfl) (by exact sc.nd) (qi_range1 (by exact rfl) T.z_range (qa_cons (q_var 4) qa_nil (by rfl)) (by rfl)) (blkOk_by (by kernel_rfl)) (fun _ _ _ _ _ => (qg_name (i := 16) (by exact sc.nd) (by exact rfl) (by first | exact Or.inl rfl | exact Or.inr rfl) (by decide) (by first | exact .inl rfl | exact .inr rfl | assumption))) (fun _ _ _ _ _ => qts_nil) (fun _ _ _ _ _ => (QN.qe (qn_call [.bag 0, .bor] C__law_draw (by exact hgd) (by exact hr) (by omega) (by exact rfl) (qa_cons (q_var 1) (qa_cons (q_var 5) qa_nil (by rfl)) (by rfl)) (by decide) (by rfl) (by rfl)))) (by intro _; rfl) (by intros; rfl) (by intros; rfl) (by intros; rfl)) (by rfl) (by first | exact .inl rfl | exact .inr rfl | assumption))
      (qs_cons (qs_setN (i := 7) (by exact sc.nd) (by exact rfl) (Or.inl rfl) (qn_call [.bag 0, .bor, .bor] C__law_facts (by exact hgd) (by exact hr) (by omega) (by exact rfl) (qa_cons (q_var 1) (qa_cons (q_var 6) (qa_cons q_int qa_nil (by rfl)) (by rfl)) (by rfl)) (by decide) (by rfl) (by rfl)) (by rfl) (by first | exact .inl rfl | exact .inr rfl | assumption))
      (qs_cons (qs_if (qt_val (q_var 3) (by intro _; rfl)) (qs_cons (qs_set (i := 13) (by exact sc.nd) (by exact rfl) (Or.inl rfl) (q_ix ix_Q o_ix (QN.qe (qn_lst (qa_cons q_int (qa_cons (QN.qe (qn_opR or_addQ o_add q_int (QN.qe (qn_call [.bag 0, .bor] C__law_draw (by exact hgd) (by exact hr) (by omega) (by exact rfl) (qa_cons (q_var 1) (qa_cons q_int qa_nil (by rfl)) (by rfl)) (by decide) (by rfl) (by rfl))))) qa_nil (by rfl)) (by rfl)))) (QN.qe (qn_call [.bag 0, .bor] C__law_draw (by exact hgd) (by exact hr) (by omega) (by exact rfl) (qa_cons (q_var 1) (qa_cons q_int qa_nil (by rfl)) (by rfl)) (by decide) (by rfl) (by rfl))) (by exact fun _ _ => rfl)) (by rfl) (by first | exact .inl rfl | exact .inr rfl | assumption))
      (qs_cons (qs_setLcB (i := 7) [("_law_k", 20)] (by exact rfl) (by exact sc.nd) (by exact rfl) (by exact rfl) (sw_true (by exact rfl) (by exact rfl) (by exact rfl) (by decide +kernel)) (qi_range1 (by exact rfl) T.z_range (qa_cons (q_var 13) qa_nil (by rfl)) (by rfl)) (blkOk_by (by kernel_rfl)) (fun _ _ _ _ _ => (qg_name (i := 20) (by exact sc.nd) (by exact rfl) (by first | exact Or.inl rfl | exact Or.inr rfl) (by decide) (by first | exact .inl rfl | exact .inr rfl | assumption))) (fun _ _ _ _ _ => qts_nil) (fun _ _ _ _ _ => (QN.qe (qn_call [.bag 0, .bor] C__law_fact (by exact hgd) (by exact hr) (by omega) (by exact rfl) (qa_cons (q_var 1) (qa_cons (q_var 6) qa_nil (by rfl)) (by rfl)) (by decide) (by rfl) (by rfl)))) (by intro _; rfl) (by intros; rfl) (by intros; rfl) (by intros; rfl))
      (qs_cons (qs_setN (i := 14) (by exact sc.nd) (by exact rfl) (Or.inl rfl) (qn_call [.bag 0, .bor] C__law_draw (by exact hgd) (by exact hr) (by omega) (by exact rfl) (qa_cons (q_var 1) (qa_cons (q_var 4) qa_nil (by rfl)) (by rfl)) (by decide) (by rfl) (by rfl)) (by rfl) (by first | exact .inl rfl | exact .inr rfl | assumption))
      (qs_cons (qs_set (i := 15) (by exact sc.nd) (by exact rfl) (Or.inl rfl) (q_ix ix_Q o_ix (QN.qe (qn_lst (qa_cons (q_var 6) (qa_cons (QN.qe (qn_lcB [("_law_place", 16)] (by exact rfl) (by exact sc.nd) (qi_range1 (by exact rfl) T.z_range (qa_cons (q_var 4) qa_nil (by rfl)) (by rfl)) (blkOk_by (by kernel_rfl)) (fun _ _ _ _ _ => (qg_name (i := 16) (by exact sc.nd) (by exact rfl) (by first | exact Or.inl rfl | exact Or.inr rfl) (by decide) (by first | exact .inl rfl | exact .inr rfl | assumption))) (fun _ _ _ _ _ => qts_nil) (fun _ _ _ _ _ => (QN.qe (qn_call [.bag 0, .bor] C__law_draw (by exact hgd) (by exact hr) (by omega) (by exact rfl) (qa_cons (q_var 1) (qa_cons q_int qa_nil (by rfl)) (by rfl)) (by decide) (by rfl) (by rfl)))) (by intro _; rfl) (by intros; rfl) (by intros; rfl) (by intros; rfl))) qa_nil (by rfl)) (by rfl)))) (QN.qe (qn_call [.bag 0, .bor] C__law_draw (by exact hgd) (by exact hr) (by omega) (by exact rfl) (qa_cons (q_var 1) (qa_cons q_int qa_nil (by rfl)) (by rfl)) (by decide) (by rfl) (by rfl))) (by exact fun _ _ => rfl)) (by rfl) (by first | exact .inl rfl | exact .inr rfl | assumption))
      (qs_one (qs_expr (q_meth (i := 7) PySem.F.slot_list_append PySem.F.type_list_append mt_append m_append (by exact rfl) (by first | exact Or.inl rfl | exact Or.inr (Or.inl rfl) | exact Or.inr (Or.inr rfl)) (qa_cons (q_tup (qa_cons q_str (qa_cons (q_var 14) (qa_cons (QN.qe (qn_call [.bor, .bor, .bor] C__law_window (by exact hgd) (by exact hr) (by omega) (by exact rfl) (qa_cons (q_var 15) (qa_cons (q_var 14) (qa_cons (q_op op_sub o_sub (q_var 4) (q_var 14)) qa_nil (by rfl)) (by rfl)) (by rfl)) (by decide) (by rfl) (by rfl))) qa_nil (by rfl)) (by rfl)) (by rfl))) qa_nil (by rfl)) (by decide) (by decide) (by rfl) (by rfl) (by rfl) (by rfl) (by rfl)) (by rfl))))))) qs_nil)
      (qs_cons (qs_setN (i := 8) (by exact sc.nd) (by exact rfl) (Or.inl rfl) (qn_call [.bor, .bor] C__law_finest (by exact hgd) (by exact hr) (by omega) (by exact rfl) (qa_cons (q_var 4) (qa_cons (q_var 7) qa_nil (by rfl)) (by rfl)) (by decide) (by rfl) (by rfl)) (by rfl) (by first | exact .inl rfl | exact .inr rfl | assumption))
      (qs_cons (qs_setN (i := 9) (by exact sc.nd) (by exact rfl) (Or.inl rfl) (qn_ifExp (qt_cmp op_isN o_is (q_var 8) q_non (by first | exact nomark _ | rfl)) (QE.toN q_non) (qn_call [.bor] C__law_distances (by exact hgd) (by exact hr) (by omega) (by exact rfl) (qa_cons (q_var 8) qa_nil (by rfl)) (by decide) (by rfl) (by rfl))) (by rfl) (by first | exact .inl rfl | exact .inr rfl | assumption))
      (qs_cons (qs_setN (i := 10) (by exact sc.nd) (by exact rfl) (Or.inl rfl) (qn_call [.bag 0, .bor] C__law_dressed_facts (by exact hgd) (by exact hr) (by omega) (by exact rfl) (qa_cons (q_var 1) (qa_cons (q_var 7) qa_nil (by rfl)) (by rfl)) (by decide) (by rfl) (by rfl)) (by rfl) (by first | exact .inl rfl | exact .inr rfl | assumption))
      (qs_cons (qs_if (qt_not (qt_val (QN.qe (qn_call [.bor, .bor] C__law_same (by exact hgd) (by exact hr) (by omega) (by exact rfl) (qa_cons (QN.qe (qn_call [.bor, .bor] C_finest_list (by exact hgd) (by exact hr) (by omega) (by exact rfl) (qa_cons (q_var 4) (qa_cons (q_var 10) qa_nil (by rfl)) (by rfl)) (by decide) (by rfl) (by rfl))) (qa_cons (q_var 9) qa_nil (by rfl)) (by rfl)) (by decide) (by rfl) (by rfl))) (by intro _; rfl))) (qs_one (qs_ret q_bl)) qs_nil)
      (qs_cons (qs_if (qt_not (qt_val (QN.qe (qn_call [.bor, .bor] C__law_same (by exact hgd) (by exact hr) (by omega) (by exact rfl) (qa_cons (QN.qe (qn_call [.bor, .bor] C_is_consistent (by exact hgd) (by exact hr) (by omega) (by exact rfl) (qa_cons (q_var 4) (qa_cons (q_var 10) qa_nil (by rfl)) (by rfl)) (by decide) (by rfl) (by rfl))) (qa_cons (q_cmp op_notN o_isNot (q_var 9) q_non (by first | exact nomark _ | rfl)) qa_nil (by rfl)) (by rfl)) (by decide) (by rfl) (by rfl))) (by intro _; rfl))) (qs_one (qs_ret q_bl)) qs_nil)
      (qs_cons (qs_setLcB (i := 11) [("_law_fact_here", 17)] (by exact rfl) (by exact sc.nd) (by exact rfl) (by exact rfl) (sw_true (by exact rfl) (by exact rfl) (by exact rfl) (by decide +kernel)) (qi_seq (q_var 7)) (blkOk_by (by kernel_rfl)) (fun _ _ _ _ _ => (qg_name (i := 17) (by exact sc.nd) (by exact rfl) (by first | exact Or.inl rfl | exact Or.inr rfl) (by decide) (by first | exact .inl rfl | exact .inr rfl | assumption))) (fun _ _ _ _ _ => (qts_one (qt_not (qt_val (QN.qe (qn_call [.bor, .bor] C__law_holds (by exact hgd) (by exact hr) (by omega) (by exact rfl) (qa_cons (q_var 6) (qa_cons (q_var 17) qa_nil (by rfl)) (by rfl)) (by decide) (by rfl) (by rfl))) (by intro _; rfl))))) (fun _ _ _ _ _ => (q_var 17)) (by intro _; rfl) (by intros; rfl) (by intros; rfl) (by intros; rfl))
      (qs_cons (qs_if (QW.toT (qw_and (qt_cmp (op_eqNil (by exact hr.units)) o_eqNl (q_var 11) (QN.qe (qn_lst qa_nil)) (by first | exact nomark _ | rfl)) (qw_and1 (qt_cmp op_isN o_is (q_var 9) q_non (by first | exact nomark _ | rfl))))) (qs_one (qs_ret q_bl)) qs_nil)
      (qs_one (qs_for [12] (qi_range1 (by exact rfl) T.z_range (qa_cons (QN.qe (qn_ifExp (qt_val (q_var 3) (by intro _; rfl)) (QE.toN q_int) (QE.toN q_int))) qa_nil (by rfl)) (by rfl)) (qg_name (i := 12) (by exact sc.nd) (by exact rfl) (by first | exact Or.inl rfl | exact Or.inr rfl) (by decide) (by first | exact .inl rfl | exact .inr rfl | assumption))
      (qs_cons (qs_parN (i := 18) (j := 19) (by exact rfl) (by exact sc.nd) (by exact rfl) (by exact rfl) (by decide) (by exact rfl) (by exact rfl) (qn_call [.bag 0, .bor] C__law_draw (by exact hgd) (by exact hr) (by omega) (by exact rfl) (qa_cons (q_var 1) (qa_cons (q_var 4) qa_nil (by rfl)) (by rfl)) (by decide) (by rfl) (by rfl)) (qn_call [.bag 0, .bor] C__law_draw (by exact hgd) (by exact hr) (by omega) (by exact rfl) (qa_cons (q_var 1) (qa_cons (q_var 4) qa_nil (by rfl)) (by rfl)) (by decide) (by rfl) (by rfl)) (by first | rfl | kernel_rfl) (by rfl) (by rfl) (by rfl))
      (qs_one (qs_for [16] (qi_seq (QN.qe (qn_lst (qa_cons (q_var 19) (qa_cons (q_var 18) qa_nil (by rfl)) (by rfl))))) (qg_name (i := 16) (by exact sc.nd) (by exact rfl) (by first | exact Or.inl rfl | exact Or.inr rfl) (by decide) (by first | exact .inl rfl | exact .inr rfl | assumption))
      (qs_one (qs_if (qt_cmp (or_neQ (by exact hr.units)) o_ne (QN.qe (qn_callS [.bor, .bor, .bor, .bor] C__law_asked (by exact hgd) (by exact hr) (by omega) tk (by exact rfl) (qa_cons (q_var 4) (qa_cons (q_var 10) (qa_cons (q_var 18) (qa_cons (q_var 16) qa_nil (by rfl)) (by rfl)) (by rfl)) (by rfl)) (by decide) (by rfl) (by rfl))) (QN.qe (qn_call [.bor, .bor, .bor, .bor] C__law_relation (by exact hgd) (by exact hr) (by omega) (by exact rfl) (qa_cons (q_var 4) (qa_cons (q_var 7) (qa_cons (q_var 18) (qa_cons (q_var 16) qa_nil (by rfl)) (by rfl)) (by rfl)) (by rfl)) (by decide) (by rfl) (by rfl))) (by first | exact nomark _ | rfl)) (qs_one (qs_ret q_bl)) qs_nil)) (passes_of (by exact rfl)) (by rfl) (by intro _; rfl)))) (passes_of (by exact rfl)) (by rfl) (by intro _; rfl))))))))))))))))) (passes_of (by exact rfl)) (by rfl) (by intro _; rfl))
      (qs_one (qs_ret q_bl))), fun ns hns => ?_⟩
  clear tk hr hgd Fn sc T
  walk_at "q"
  refine ⟨ns, rfl, hns, fun dg sd g0 s0 s1 => ?_⟩
  walk_at "q"
  refine ⟨_, 0, rfl, ⟨dg, sd, 0, rfl, g0, s0, s1, Int.le_refl _⟩, (by show 0 + 0 ≤ 2 ^ 60; decide), ?_⟩
  simp only [List.set_cons_succ, List.set_cons_zero]
  walk_at "q"
  refine ⟨by split <;> omega, by split <;> omega, ?_⟩
  refine loopJ (fun m env => ∃ s2 s3 s4 s5 s6 s7 s8 s9 s10 s11 s12 s13 s14 s15 s16 s17 s18 s19 s20, env = [.bor (.scr ns), .bag 0, s2, s3, s4, s5, s6, s7, s8, s9, s10, s11, s12, s13, s14, s15, s16, s17, s18, s19, s20]) ⟨_, _, _, _, _, _, _, _, _, _, _, _, _, _, _, _, _, _, _, rfl⟩ (fun m d env X hd hJ hX => ?_) fun env hJ => ?_
  rotate_left
  · obtain ⟨s2, s3, s4, s5, s6, s7, s8, s9, s10, s11, s12, s13, s14, s15, s16, s17, s18, s19, s20, rfl⟩ := hJ
    walk_at "q"
  obtain ⟨hm, rfl⟩ := ranged_get hd
  obtain ⟨s2, s3, s4, s5, s6, s7, s8, s9, s10, s11, s12, s13, s14, s15, s16, s17, s18, s19, s20, rfl⟩ := hJ
  rw [Int.zero_add]
  refine cut3 fun R E hR hE => ?_
  have main3 : ∀ (b : Bool) (n : Nat), 1 ≤ n → n ≤ 60 → R E [.bor (.scr ns), .bag 0, .sh (.int m), .sh (.bl b), .sh (.int n), s5, s6, s7, s8, s9, s10, s11, s12, s13, s14, s15, s16, s17, s18, s19, s20] := by
    intro b n n1 n2
    subst hR hE
    refine cut4 fun R E hR hE => ?_
    have main7 : ∀ (w : List Int) (fc : List Fc) (ds : List D) (s5 s6 s13 s14 s15 s16 s20 : Sl), w.length = n → s6 = .own (.lst (w.map .int)) ∨ s6 = .sh (.lst (w.map .int)) → FcsAt fc ds → (∀ d ∈ ds, ∃ ps, d = .tup ps ∧ WinL ps) → (∀ f ∈ fc, FcOk n f) → ds.length ≤ 40 →
        R E [.bor (.scr ns), .bag 0, .sh (.int m), .sh (.bl b), .sh (.int n), s5, s6, .own (.lst ds), s8, s9, s10, s11, s12, s13, s14, s15, s16, s17, s18, s19, s20] := by
      intro w fc ds s5 s6 s13 s14 s15 s16 s20 hw hs6 hfc hds hok hl
      subst hR hE
      refine cut2 fun R E hR hE => ?_
      have main9 : ∀ (s8 s9 : Sl), ((∀ u, ¬ Fit n fc u) ∧ s9 = .sh .non) ∨ (∃ L : List Int, Closed n fc L ∧ Fit n fc L ∧ s9 = .own (.lst ((dist L).map .int))) →
          R E [.bor (.scr ns), .bag 0, .sh (.int m), .sh (.bl b), .sh (.int n), s5, s6, .own (.lst ds), s8, s9, s10, s11, s12, s13, s14, s15, s16, s17, s18, s19, s20] := by
        intro s8 s9 hs9
        subst hR hE
        refine cut1 fun R E hR hE => ?_
        have main10 : ∀ (s10 : Sl) (es : List D), FcsAt fc es → (s10 = .own (.lst es) ∨ s10 = .sh (.tup es)) → R E [.bor (.scr ns), .bag 0, .sh (.int m), .sh (.bl b), .sh (.int n), s5, s6, .own (.lst ds), s8, s9, s10, s11, s12, s13, s14, s15, s16, s17, s18, s19, s20] := by
          intro s10 es hes hs10
          subst hR hE
          have hel : es.length ≤ 40 := by rw [← hes.length, hfc.length]; exact hl
          refine cut2 fun R E hR hE => ?_
          have main12 : R E [.bor (.scr ns), .bag 0, .sh (.int m), .sh (.bl b), .sh (.int n), s5, s6, .own (.lst ds), s8, s9, s10, s11, s12, s13, s14, s15, s16, s17, s18, s19, s20] := by
            subst hR hE
            refine cut2 fun R E hR hE => ?_
            have main14 : ∀ (s7 s11 s17 : Sl), s7 = .sh (.lst ds) → R E [.bor (.scr ns), .bag 0, .sh (.int m), .sh (.bl b), .sh (.int n), s5, s6, s7, s8, s9, s10, s11, s12, s13, s14, s15, s16, s17, s18, s19, s20] := by
              intro s7 s11 s17 hs7
              subst hR hE hs7
              rcases hs10 with rfl | rfl <;> cases b
              all_goals
                walk_at "q"
                refine loopJ (fun q env => ∃ s12 s16 s18 s19, env = [.bor (.scr ns), .bag 0, .sh (.int m), _, .sh (.int n), s5, s6, .sh (.lst ds), s8, s9, _, s11, s12, s13, s14, s15, s16, s17, s18, s19, s20]) ⟨_, _, _, _, rfl⟩ (fun q d env X3 hd3 hJ3 hX3 => ?_) fun env hJ3 => ?_
                · obtain ⟨s12, s16, s18, s19, rfl⟩ := hJ3
                  obtain ⟨hq, rfl⟩ := ranged_get hd3
                  walk_at "q"
                  refine ⟨⟨by omega, by omega⟩, fun i i0 i1 => ⟨⟨by omega, by omega⟩, fun j j0 j1 => ?_⟩⟩
                  obtain ⟨i, rfl⟩ := Int.eq_ofNat_of_zero_le i0
                  obtain ⟨j, rfl⟩ := Int.eq_ofNat_of_zero_le j0
                  refine ⟨n, fc, es, _, i, j, rfl, ⟨by first | exact .inl rfl | exact .inr rfl, hes, hok, n1, n2, hel, by omega, by omega⟩, fun hno => ?_, fun s hs => ?_⟩
                  · walk_at "q"
                    refine ⟨n, fc, ds, i, j, rfl, ⟨hfc, hds, hok, n2, by omega, by omega, by omega⟩, fun _ => ?_, fun t ht => (by obtain ⟨u, hu⟩ := ht.fit; exact absurd hu (hno u))⟩
                    walk_at "q"
                    refine ⟨n, fc, es, _, i, i, rfl, ⟨by first | exact .inl rfl | exact .inr rfl, hes, hok, n1, n2, hel, by omega, by omega⟩, fun hno => ?_, fun s hs => ?_⟩
                    · walk_at "q"
                      refine ⟨n, fc, ds, i, i, rfl, ⟨hfc, hds, hok, n2, by omega, by omega, by omega⟩, fun _ => ?_, fun t ht => (by obtain ⟨u, hu⟩ := ht.fit; exact absurd hu (hno u))⟩
                      walk_at "q"
                      exact hX3 _ ⟨_, _, _, _, rfl⟩
                    · walk_at "q"
                      refine ⟨n, fc, ds, i, i, rfl, ⟨hfc, hds, hok, n2, by omega, by omega, by omega⟩, fun hno => (by obtain ⟨u, hu⟩ := hs.fit; exact absurd hu (hno u)), fun t ht => ?_⟩
                      have est := rel2_one ht hs
                      subst est
                      walk_at "q"
                      exact hX3 _ ⟨_, _, _, _, rfl⟩
                  · walk_at "q"
                    refine ⟨n, fc, ds, i, j, rfl, ⟨hfc, hds, hok, n2, by omega, by omega, by omega⟩, fun hno => (by obtain ⟨u, hu⟩ := hs.fit; exact absurd hu (hno u)), fun t ht => ?_⟩
                    have est := rel2_one ht hs
                    subst est
                    walk_at "q"
                    refine ⟨n, fc, es, _, i, i, rfl, ⟨by first | exact .inl rfl | exact .inr rfl, hes, hok, n1, n2, hel, by omega, by omega⟩, fun hno => ?_, fun s hs => ?_⟩
                    · walk_at "q"
                      refine ⟨n, fc, ds, i, i, rfl, ⟨hfc, hds, hok, n2, by omega, by omega, by omega⟩, fun _ => ?_, fun t ht => (by obtain ⟨u, hu⟩ := ht.fit; exact absurd hu (hno u))⟩
                      walk_at "q"
                      exact hX3 _ ⟨_, _, _, _, rfl⟩
                    · walk_at "q"
                      refine ⟨n, fc, ds, i, i, rfl, ⟨hfc, hds, hok, n2, by omega, by omega, by omega⟩, fun hno => (by obtain ⟨u, hu⟩ := hs.fit; exact absurd hu (hno u)), fun t ht => ?_⟩
                      have est := rel2_one ht hs
                      subst est
                      walk_at "q"
                      exact hX3 _ ⟨_, _, _, _, rfl⟩
                · obtain ⟨s12, s16, s18, s19, rfl⟩ := hJ3
                  walk_at "q"
                  exact hX _ ⟨_, _, _, _, _, _, _, _, _, _, _, _, _, _, _, _, _, _, _, rfl⟩
            clear hR
            rcases hs6 with rfl | rfl
            all_goals
              subst hE
              walk_at "q"
              refine comp_rule (fun _ : Unit => _) (fun m _ acc => (acc = [] ↔ ∀ f ∈ fc.take m, Says w f) ∧ acc.length ≤ m) () ⟨by simp, Nat.le_refl _⟩ (fun m d _ acc X hdd hI hX => ?_) fun _ acc hI => ?_
              · obtain ⟨hI, hal⟩ := hI
                obtain ⟨f, e1, e2⟩ := hfc.at hdd
                obtain ⟨ps, rfl, _⟩ := hds d (List.mem_of_getElem? hdd)
                have hml := (List.getElem?_eq_some_iff.mp hdd).1
                cases e2 with
                | tup hp =>
                unfold compStep
                walk_at "q"
                refine ⟨w, f, ps, rfl, ⟨hp, by rw [hw]; exact hok f (List.mem_of_getElem? e1), by omega⟩, fun b hb => ?_⟩
                walk_at "q"
                cases b with
                | true =>
                  walk_at "q"
                  refine hX () _ ⟨?_, by omega⟩
                  rw [List.take_add_one, e1, hI]
                  constructor
                  · intro h f hf
                    rcases List.mem_append.mp hf with hf | hf
                    · exact h f hf
                    · rw [List.mem_singleton.mp hf]; exact hb.mp rfl
                  · exact fun h f hf => h f (List.mem_append_left _ hf)
                | false =>
                  walk_at "q"
                  refine ⟨by omega, hX () _ ⟨⟨fun z => by simp at z, fun z => ?_⟩, by rw [List.length_append]; show _ + 1 ≤ _; omega⟩⟩
                  exact absurd (hb.mpr (z f (by rw [List.take_add_one, e1]; exact List.mem_append_right _ (List.mem_singleton.mpr rfl)))) (by decide)
              obtain ⟨hI, hal⟩ := hI
              rw [← hfc.length, List.take_length] at hI
              rcases hs9 with ⟨hno, rfl⟩ | ⟨L, hL, fL, rfl⟩
              · walk_at "q"
                refine cIf_r ?_ ?_
                · cases acc with
                  | nil => exact absurd ⟨hw, hI.mp rfl⟩ (hno w)
                  | cons x r => rfl
                · exact main14 _ _ _ rfl
              · walk_at "q"
                refine cIf_b (fun e => ?_) (fun e => ?_)
                · walk_at "q"
                  exact main14 _ _ _ rfl
                · exact main14 _ _ _ rfl
          have hE3 : E = E := rfl
          clear hR
          rcases hs10 with rfl | rfl
          all_goals
            rcases hs9 with ⟨hno, rfl⟩ | ⟨L, hL, fL, rfl⟩
            · subst hE
              walk_at "q"
              refine ⟨n, fc, es, _, rfl, ⟨by first | exact .inl rfl | exact .inr rfl, hes, hok, n1, n2, hel⟩, fun _ => ?_, fun M hM fM => absurd fM (hno M)⟩
              walk_at "q"
              refine ⟨.non, rfl, rfl, ?_⟩
              walk_at "q"
              refine ⟨n, fc, es, _, rfl, ⟨by first | exact .inl rfl | exact .inr rfl, hes, hok, n1, n2, hel⟩, fun q hq => ?_⟩
              have hq : q = false := by
                cases q
                · rfl
                · obtain ⟨u, hu⟩ := hq.mp rfl
                  exact absurd hu (hno u)
              subst hq
              walk_at "q"
              refine ⟨.bl false, rfl, rfl, ?_⟩
              walk_at "q"
              exact main12
            · subst hE
              walk_at "q"
              refine ⟨n, fc, es, _, rfl, ⟨by first | exact .inl rfl | exact .inr rfl, hes, hok, n1, n2, hel⟩, fun hno => absurd fL (hno L), fun M hM fM => ?_⟩
              rw [(closed_alike hM hL fM fL).dist]
              have hLl := hL.len
              walk_at "q"
              refine ⟨_, rfl, okSame_l (by omega), ?_⟩
              walk_at "q"
              refine ⟨n, fc, es, _, rfl, ⟨by first | exact .inl rfl | exact .inr rfl, hes, hok, n1, n2, hel⟩, fun q hq => ?_⟩
              have hq : q = true := hq.mpr ⟨L, fL⟩
              subst hq
              walk_at "q"
              refine ⟨.bl true, rfl, rfl, ?_⟩
              walk_at "q"
              exact main12
        clear hR hE
        walk_at "q"
        refine ⟨fc, ds, rfl, ⟨hfc, hds, by omega⟩, fun es hes => ⟨?_, ?_⟩⟩
        · walk_at "q"
          exact main10 _ es hes (.inl rfl)
        · walk_at "q"
          exact main10 _ es hes (.inr rfl)
      clear hR hE
      walk_at "q"
      refine ⟨n, fc, ds, rfl, ⟨hfc, hds, hok, n2, by omega⟩, fun hno => ?_, fun L hL fL => ?_⟩
      · walk_at "q"
        exact main9 _ _ (.inl ⟨hno, rfl⟩)
      · have hLl := hL.len
        walk_at "q"
        exact ⟨by omega, main9 _ _ (.inr ⟨L, hL, fL, rfl⟩)⟩
    clear hR hE
    walk_at "q"
    refine fun r r0 r1 => ix_pickI (fun v => 1 ≤ v ∧ v ≤ 9) r0 (by show _ < (3 : Int); omega) (fun d hd => ?_) fun kd ⟨k0, k1⟩ => ?_
    · simp only [List.mem_cons, List.not_mem_nil, or_false] at hd
      rcases hd with rfl | rfl | rfl
      · exact ⟨_, rfl, by decide, by decide⟩
      · exact ⟨_, rfl, by decide, by decide⟩
      · exact ⟨_, rfl, by decide, by decide⟩
    walk_at "q"
    refine ⟨by omega, by omega, ?_⟩
    refine comp_rule (fun _ : Unit => _) (fun n _ acc => ∃ u : List Int, acc = u.map .int ∧ u.length = n) () ⟨[], rfl, rfl⟩ (fun i d a acc X hd hI hX => ?_) fun a acc hI => ?_
    · obtain ⟨u, rfl, hu⟩ := hI
      obtain ⟨hi, rfl⟩ := ranged_get hd
      unfold compStep
      walk_at "q"
      refine ⟨⟨by omega, by omega⟩, fun r r0 r1 => ⟨by omega, ?_⟩⟩
      exact hX () _ ⟨u ++ [r], by rw [List.map_append], by rw [List.length_append, hu]; rfl⟩
    obtain ⟨w, rfl, hw⟩ := hI
    rw [ranged_length, Int.toNat_natCast] at hw
    walk_at "q"
    refine ⟨⟨by omega, by omega⟩, fun fc ds hfc hds hok hl => ?_⟩
    rw [hw] at hok
    cases b with
    | false =>
      walk_at "q"
      exact main7 w fc ds _ _ _ _ _ _ _ hw (.inl rfl) hfc hds hok (by omega)
    | true =>
    walk_at "q"
    clear hfc hds hok hl
    refine fun q q0 q1 r r0 r1 => ix_pickI (fun v => 0 ≤ v ∧ v ≤ 39) r0 (by show _ < (2 : Int); omega) (fun d hd => ?_) fun mn ⟨mn0, mn1⟩ => ?_
    · simp only [List.mem_cons, List.not_mem_nil, or_false] at hd
      rcases hd with rfl | rfl
      · exact ⟨_, rfl, by decide, by decide⟩
      · exact ⟨_, rfl, by omega, by omega⟩
    walk_at "q"
    refine ⟨by omega, by omega, ?_⟩
    refine comp_rule (fun _ : Unit => _) (fun q _ acc => ∃ fc : List Fc, FcsAt fc acc ∧ (∀ d ∈ acc, ∃ ps, d = .tup ps ∧ WinL ps) ∧ (∀ f ∈ fc, FcOk n f) ∧ acc.length = q) () ⟨[], .nil, by simp, by simp, rfl⟩ (fun i d a acc X hd hI hX => ?_) fun a acc hI => ?_
    · obtain ⟨fc, a1, a2, a3, a4⟩ := hI
      obtain ⟨hi, rfl⟩ := ranged_get hd
      unfold compStep
      walk_at "q"
      refine ⟨⟨by omega, by omega⟩, fun f ps hf wl ok => ⟨by omega, hX () _ ⟨fc ++ [f], a1.append (.cons (.tup hf) .nil), fun d hd => ?_, fun g hg => ?_, by rw [List.length_append, a4]; rfl⟩⟩⟩
      · rcases List.mem_append.mp hd with hd | hd
        · exact a2 d hd
        · exact ⟨ps, List.mem_singleton.mp hd, wl⟩
      · rcases List.mem_append.mp hg with hg | hg
        · exact a3 g hg
        · rw [List.mem_singleton.mp hg, ← hw]; exact ok
    obtain ⟨fc, a1, a2, a3, a4⟩ := hI
    rw [ranged_length] at a4
    walk_at "q"
    refine ⟨⟨by omega, by omega⟩, fun st st0 st1 => ⟨by omega, by omega, ?_⟩⟩
    refine comp_rule (fun _ : Unit => _) (fun n _ acc => ∃ u : List Int, acc = u.map .int ∧ u.length = n) () ⟨[], rfl, rfl⟩ (fun i d a acc X hd hI hX => ?_) fun a acc2 hI => ?_
    · obtain ⟨u, rfl, hu⟩ := hI
      obtain ⟨hi, rfl⟩ := ranged_get hd
      unfold compStep
      walk_at "q"
      refine fun r r0 r1 => ⟨by omega, ?_⟩
      exact hX () _ ⟨u ++ [r], by rw [List.map_append], by rw [List.length_append, hu]; rfl⟩
    obtain ⟨v, rfl, hv⟩ := hI
    rw [ranged_length, Int.toNat_natCast] at hv
    walk_at "q"
    refine fun q q0 q1 => ix_pick q0 (by show _ < (2 : Int); omega) fun d hd => ?_
    have hd2 : ∃ z : List Int, d = .lst (z.map .int) ∧ z.length = n := by
      simp only [List.mem_cons, List.not_mem_nil, or_false] at hd
      rcases hd with rfl | rfl
      · exact ⟨w, rfl, hw⟩
      · exact ⟨v, rfl, hv⟩
    obtain ⟨z, rfl, hz⟩ := hd2
    walk_at "q"
    refine ⟨⟨by omega, by omega, by omega⟩, by omega, ?_⟩
    obtain ⟨st, rfl⟩ := Int.eq_ofNat_of_zero_le st0
    rw [show ((n : Int) - (st : Int)).toNat = n - st by omega, Int.toNat_natCast, show (z.drop st).take (n - st) = segN z st (n - st) from rfl]
    have hsl := segN_len (L := z) (s := st) (l := n - st) (by omega)
    refine main7 w (fc ++ [.win st (segN z st (n - st))]) _ _ _ _ _ _ _ _ hw (.inr rfl) (a1.append (.cons (.tup .winL) .nil)) (fun d hd => ?_) (fun f hf => ?_) (by rw [List.length_append]; show _ + 1 ≤ _; omega)
    · rcases List.mem_append.mp hd with hd | hd
      · exact a2 d hd
      · exact ⟨_, List.mem_singleton.mp hd, winl_no rfl⟩
    · rcases List.mem_append.mp hf with hf | hf
      · exact a3 f hf
      · rw [List.mem_singleton.mp hf]
        exact ⟨by omega, by omega⟩
  clear hR hE
  simp only [List.set_cons_succ, List.set_cons_zero]
  walk_at "q"
  have fin : ∀ (b : Bool) (v : Int), 0 ≤ v → v < 20 → cIf b (fun _ => R E [.bor (.scr ns), .bag 0, .sh (.int m), .sh (.bl b), .sh (.int (1 + v)), s5, s6, s7, s8, s9, s10, s11, s12, s13, s14, s15, s16, s17, s18, s19, s20]) (fun _ => True) → True := fun _ _ _ _ _ => trivial
  clear fin
  have fin : ∀ (b : Bool) (v : Int), 1 ≤ v → v ≤ 60 → R E [.bor (.scr ns), .bag 0, .sh (.int m), .sh (.bl b), .sh (.int v), s5, s6, s7, s8, s9, s10, s11, s12, s13, s14, s15, s16, s17, s18, s19, s20] := fun b v v1 v2 => by
    obtain ⟨n, rfl⟩ := Int.eq_ofNat_of_zero_le (show 0 ≤ v by omega)
    exact main3 b n (by omega) (by omega)
  refine cIf_i (fun e => ?_) (fun e => ?_)
  · walk_at "q"
    refine fun r r0 r1 v v0 v1 => ?_
    generalize decide (r = 0) = b
    cases b with
    | false =>
      walk_at "q"
      exact fin _ _ (by omega) (by omega)
    | true =>
      walk_at "q"
      refine fun u u0 u1 q q0 q1 => ix_pickI (fun v => 1 ≤ v ∧ v ≤ 60) q0 (by show _ < (2 : Int); omega) (fun d hd => ?_) fun mn ⟨mn0, mn1⟩ => ?_
      · simp only [List.mem_cons, List.not_mem_nil, or_false] at hd
        rcases hd with rfl | rfl
        · exact ⟨_, rfl, by decide, by decide⟩
        · exact ⟨_, rfl, by omega, by omega⟩
      walk_at "q"
      exact fin _ _ (by omega) (by omega)
  · walk_at "q"
    refine fun v v0 v1 => ?_
    exact fin _ _ (by omega) (by omega)
end Lw
open PySem PySem.W PySem.Calls PyProof.Rows
theorem PySem.Challenge.cw_howfarback_k43_what_follows_from_facts_holds : PySem.Challenge.rw_howfarback_k43_what_follows_from_facts.Holds := by
  w_on; o_law
  refine HandSHeadRun.head_any (r := OpenLaw.row PySem.Challenge.rw_howfarback_k43_what_follows_from_facts) (q := view (OpenLaw.row PySem.Challenge.rw_howfarback_k43_what_follows_from_facts).prog [56]) (H := Lw.hk) (ob := Lw.ob) (M := 20000) (loose := Lw.lo) (d := HandSHeadRun.topDef (OpenLaw.row PySem.Challenge.rw_howfarback_k43_what_follows_from_facts).prog 56) (kwd := []) Lw.ob_eq
    (by kernel_rfl) (fun s => by kernel_rfl) Lw.run (by kernel_rfl) (by kernel_rfl) (by kernel_rfl) (by rfl) (by first | assumption | decide +kernel) (by decide +kernel) ⟨rfl, rfl, rfl, rfl, rfl, by decide +kernel⟩ ?hw ?hc
  case hw => w_witness2
  case hc =>
    refine Q.walkG (l := PySem.Challenge.rw_howfarback_k43_what_follows_from_facts) (n := 63) (k := 9) (x := "_law_script") rfl (by decide) (by kernel_rfl) ⟨rfl, by decide, by decide⟩ ?F
    intro w mg fa h Y G hmg0
    obtain ⟨K, KX, c, cx⟩ := Y
    have hmg : mg ("law" : PySem.Str) = some (.ref fa) := by
      rw [← show (HandSHeadRun.topDef (OpenLaw.row PySem.Challenge.rw_howfarback_k43_what_follows_from_facts).prog 56).name = ("law" : PySem.Str) by kernel_rfl]
      exact hmg0
    have T := Lw.tx KX G c cx
    have e : Value.ref (He.ga K "law") = Value.ref fa := Option.some.inj (T.g_law.symm.trans hmg)
    cases e
    obtain ⟨fd, hF⟩ := T.f_law
    exact ⟨K, fd, Q.spLaw K, KX, fun s v => (L2.FunD.bindsA (ps := ["_law_script"]) hF fun _ _ _ _ _ _ us hl => match us, hl with | [_], _ => rfl) s [v] rfl, fun H a ns hl _ hS => ⟨a, ns, rfl, hS, hl, fun _ => rfl⟩, fun base _ _ => by
      obtain ⟨fd', G', hF'⟩ := Lw.ok_law (P := (PySem.Challenge.rw_howfarback_k43_what_follows_from_facts).prog) (w := w) (base := base) T
      obtain ⟨oc, od, dV, kV, doc, pm, an, cdv, ct, osl, e1, lk, _⟩ := hF.ex
      obtain ⟨oc', od', dV', kV', doc', pm', an', cdv', ct', osl', e1', lk', _⟩ := hF'.ex
      rw [lk] at lk'
      cases lk'
      exact G'⟩
