import PyProof.Rows.All
import Wide.All
import OpenK.AllK
import Wide.FinOn
import HandS.ForMost
import HandS.Exc
import HandS.Flow
import HandS.IsInst
import HandS.SortInts
import HandS.TupLe
import HandS.TupAny
import HandS.TupMul
import HandS.Rev
import HandS.Zip
import HandS.Wide
import HandS.Deep
import HandS.WideBits
import KE.SortData
import HandS.WordsExc
import HandS.Conv
import HandS.Iter
import KE.GoesEnum
import KE.GoesMore
import HandS.Style
import PyProof.ReprRoads
import HandS.RaiseMore
import PyProof.Rows.SumAny
import KE.DataMinMax
import HandS.SetKeys
import HandS.WordsDict
import HandS.More
import HandS.Small
import HandS.Strs
import HandS.Codes
import PyProof.StrOps2
import PyProof.TupleOfSeq
import HandS.Replace
import PyProof.ListStr
import PyProof.Rows.StrJoinStr
import HandS.StrMore
import HandS.SetBool
import HandS.SortKw
import HandS.TryOnly
import HandS.Sort
import HandS.DictComp
import HandS.DictTup
import KE.KDictDisplayH
import KE.GoesComp
import KE.KDictKeyed
import PyProof.Rows.SeqRoads
import HandS.FStr
import KE.KDictZip
import HandS.Zip0
import PyProof.NeKinds
import PyProof.ReprLen
import PySem.Challenge.RW_keepsort_k19_programs_and_others
set_option Elab.async false
set_option linter.all false
set_option maxRecDepth 100000
set_option maxHeartbeats 4000000
/-! defs that are called where no repr is under way -/
namespace KP
open PySem PySem.Spec PyProof.Rows L2
/-- a def's promise, kept wherever no guard stands on the stack -/
structure FnG (P : Program) (w : World) (K : PySem.W.Frag) (mg : Str → Option Value) (bs : Heap) (CX : CXT) (k : Nat) (f : Addr) (fd : FuncData) (ps : List Str) (sp : Sp) : Prop where
  len : ∀ vs H Q E, sp vs H Q E → vs.length = ps.length
  run : ∀ (A : Around) (out : List Env) (t : Shared) (H : Hp) (ar : Args) (us : List Value) (vs : List V) (Q : VK) (E : XK), A.guards = some [] → Room k A → Env0 P w K mg bs A out t H → BindsTo t fd ar (ps.zip us) → Vals vs us → sp vs H Q E → codeAny (model P w) A (.call (.ref f) ar) (CR CX out P w H t Q E) t
theorem FnG.imp {P : Program} {w : World} {K : PySem.W.Frag} {mg : Str → Option Value} {bs : Heap} {CX : CXT} {k : Nat} {f : Addr} {fd : FuncData} {ps : List Str} {sp sp2 : Sp} (F : FnG P w K mg bs CX k f fd ps sp)
    (h : ∀ vs H Q E, sp2 vs H Q E → sp vs H Q E) : FnG P w K mg bs CX k f fd ps sp2 := by
  refine ⟨fun vs H Q E q => F.len vs H Q E (h _ _ _ _ q), ?_⟩
  intro A out t H ar us vs Q E g hr he hb hv hs
  exact F.run A out t H ar us vs Q E g hr he hb hv (h _ _ _ _ hs)
section
variable {X : Cx} {CX : CXT} {k : Nat} {f : Addr} {fd : FuncData} {ps ks : List Str} {sp : Sp} {dvs : List V} {dd : List Value} {E : XK} {x : Str} {p pos : Pos} {e : Expr} {es : List Expr} {ta : TA} {pins : List (Addr × Obj)} {σ : L2.St} {H : Hp} {t : Shared} {Q : VK}
theorem run_any {ar : Args} {us : List Value} {vs : List V} (F : FnG X.prog X.w X.K X.mg X.base CX k f fd ps sp) (g : X.A.guards = some []) (hr : Room k X.A) (hx : Passes CX X E)
    (I : Inv X pins σ H t) (hb : BindsTo t fd ar (ps.zip us)) (r : Vals vs us) (h : sp vs H Q E) : codeAny (model X.prog X.w) X.A (.call (.ref f) ar) (fun r s' => match r with
      | .ok (.ret u) => EP X pins σ Q u s'
      | .ok _ => False
      | .error e => X.xe e s') t := by
  refine codeAny_mono (F.run X.A X.stack t H ar us vs Q E g hr I.env0 hb r h) ?_
  intro rr s' hq
  cases rr with
  | error e => exact hx pins σ H t e s' I hq
  | ok fl => cases fl with
    | ret u => exact I.after hq
    | next => exact False.elim hq
    | brk => exact False.elim hq
    | cont => exact False.elim hq
theorem run_fnG {us : List Value} {vs : List V} (F : FnG X.prog X.w X.K X.mg X.base CX k f fd ps sp) (g : X.A.guards = some []) (hr : Room k X.A) (hb : Binds X.K fd ps dd) (hd : Vals dvs dd) (hx : Passes CX X E)
    (I : Inv X pins σ H t) (r : Vals vs us) (h : sp (vs ++ dvs) H Q E) : wpAny (model X.prog X.w) X.A (call (.ref f) us) (EP X pins σ Q) X.xe t := by
  have r2 := r.append hd
  have hl : (us ++ dd).length = ps.length := by
    rw [← r2.length]
    exact F.len _ _ _ _ h
  refine wpAny_call (codeAny_mono (run_any (Q := Q) F g hr hx I (hb t us I.kIn hl) r2 h) ?_)
  intro rr s' hq
  cases rr with
  | error e => exact hq
  | ok fl => cases fl <;> first | exact hq | exact False.elim hq
theorem pe_callG (F : FnG X.prog X.w X.K X.mg X.base CX k f fd ps sp) (g : X.A.guards = some []) (hr : Room k X.A) (hg : Gl X x) (hm : X.mg x = some (.ref f)) (hk : PySem.W.keepIn X.K (.ref f) = true) (hb : Binds X.K fd ps dd) (hd : Vals dvs dd) (hx : Passes CX X E)
    (ha : PA X (e :: es) ta) (hdb : (x == ("__debug__" : Str)) = false := by decide) (he : starEach (e :: es) X.env = (false, eval e X.env) :: starEach es X.env := by rfl) (hpl : (backTo pos (starEach es X.env)).any (·.1) = false := by rfl) :
    PE X (.Call (.Name x p) (e :: es) [] pos) (tCall sp dvs E ta) := by
  constructor
  intro pins t σ H Q I h
  refine wpAny_Call_Name_kw (ld_glob I hg hm ?_ hdb)
  refine PySem.W.callWith_K (h₀ := X.base) I.ok.mod.kin hk (thn (ha.run pos pins t σ H _ I h) ?_) he hpl
  intro us s1 ⟨vs, H1, I1, r, q⟩
  exact ⟨I1.kIn, run_fnG F g hr hb hd hx I1 r q⟩
theorem pe_callG0 (F : FnG X.prog X.w X.K X.mg X.base CX k f fd ps sp) (g : X.A.guards = some []) (hr : Room k X.A) (hg : Gl X x) (hm : X.mg x = some (.ref f)) (hk : PySem.W.keepIn X.K (.ref f) = true) (hb : Binds X.K fd ps dd) (hd : Vals dvs dd) (hx : Passes CX X E)
    (hdb : (x == ("__debug__" : Str)) = false := by decide) : PE X (.Call (.Name x p) [] [] pos) (tCall sp dvs E tNil) := by
  constructor
  intro pins t σ H Q I h
  refine wpAny_Call_Name_kw (ld_glob I hg hm (PySem.W.callWith_K0 I.kIn hk ?_) hdb)
  exact run_fnG (us := []) F g hr hb hd hx I .nil h
theorem run_fnkG {g : List Value → List Value → List Value} {gV : List V → List V → List V} {us ws : List Value} {vs zs : List V} (F : FnG X.prog X.w X.K X.mg X.base CX k f fd ps sp) (gd : X.A.guards = some []) (hr : Room k X.A) (hb : KBinds X.K fd ps ks g gV) (hx : Passes CX X E)
    (I : Inv X pins σ H t) (r : Vals vs us) (rz : Vals zs ws) (h : sp (gV vs zs) H Q E) : wpAny (model X.prog X.w) X.A (call (.ref f) us (ks.zip ws)) (EP X pins σ Q) X.xe t := by
  have r2 := hb.rel r rz
  have hl : (g us ws).length = ps.length := by
    rw [← r2.length]
    exact F.len _ _ _ _ h
  refine wpAny_call (codeAny_mono (run_any (Q := Q) F gd hr hx I (hb.to t us ws I.kIn hl) r2 h) ?_)
  intro rr s' hq
  cases rr with
  | error e => exact hq
  | ok fl => cases fl <;> first | exact hq | exact False.elim hq
end
/-- a def of the text, by its body -/
theorem fn_ofG {CX : CXT} {P : Program} {w : World} {K : PySem.W.Frag} {mg : Str → Option Value} {bs : Heap} {k : Nat} {f : Addr} {nm qu : Str} {pr : Arguments} {bd : List Stmt} {scp : Scope} {dV kV doc pm cdv ct oc : Value} {an od : Option Addr}
    {osl : Array (Option Value)} {N ps : List Str} {sp : Sp} (lk : K.lookup f = some ⟨oc, od, .func (PySem.W.fnOf nm qu pr bd scp dV kV doc pm an cdv ct), osl⟩) (hcd : PySem.W.codeIn K cdv qu = true) (S : FnScope N ps scp)
    (len : ∀ vs H Q E, sp vs H Q E → vs.length = ps.length)
    (hbody : ∀ (A : Around) (out : List Env) (t : Shared) (H : Hp) (vs : List V) (Q : VK) (E : XK), A.guards = some [] → Room k (A.deeper (envOfC qu scp t.heap.objs.size f cdv)) → sp vs H Q E →
      ∃ ts, PSs (cxOf CX P w K mg bs N qu scp f cdv A out t H E) bd ts ∧ ts { nx := fun _ H' => Q .non H', rt := Q } (start N vs) H) :
    FnG P w K mg bs CX (k + 1) f (PySem.W.fnOf nm qu pr bd scp dV kV doc pm an cdv ct) ps sp := by
  refine ⟨len, ?_⟩
  intro A out t H ar us vs Q E gd hr e0 hb r hsp
  have hl := len _ _ _ _ hsp
  have hin : ∀ b o, bs.get? b = some o → t.heap.get? b = some o := fun b o e => (e0.bs b o e).1
  have KX := e0.mod.kin.keeps hin
  have lim := e0.mod.nolimit.keeps hin
  have hkd : ∀ y ∈ ps.zip us, scp.names.lookup y.1 = some .local ∨ (scp.names.lookup y.1 = some .cell ∧ ((cellsFrom (t.heap.objs.size + 1) scp.names []).lookup y.1).isSome = true) := by
    rintro ⟨n, v⟩ hy
    rcases S.par n (List.of_mem_zip hy).1 with q | q
    · exact .inl q
    · exact .inr ⟨q, PySem.W.cellsFrom_some _ _ _ (.inl q)⟩
  refine codeAny_call_function hr.depth (KX _ _ lk) rfl S.co S.gen rfl (PySem.W.codeRec_of KX hcd) (hb _ _ _ _ (wpAny_newFunctionEnv_cells S.kind hkd ?_))
  intro env he s1 x
  subst he
  refine ⟨lim.keeps x.toInCall.keep, codeAny_func ?_⟩
  obtain ⟨ts, ht, hq⟩ := hbody A out t H vs Q E gd (hr.deeper _) hsp
  have I := inv_start (E := E) (CX := CX) (w := w) (f := f) (cd := cdv) S hr.hd e0 hl r x
  refine wpAny_mono (ht.run [] s1 (start N vs) H _ I hq) ?_ fun e s' hs => hs
  intro fl s' hs
  have fin : ∀ {σ' : L2.St} {H' : Hp} {v : V} {u : Value}, Inv (cxOf CX P w K mg bs N qu scp f cdv A out t H E) [] σ' H' s' → RelV v u → Q v H' → CE out P w H t Q u s' := by
    intro σ' H' v u J rv q
    exact ⟨v, H', J.os, J.bare, J.base, J.hok, rv, q⟩
  cases fl with
  | brk => obtain ⟨_, _, _, q⟩ := hs; exact False.elim q
  | cont => obtain ⟨_, _, _, q⟩ := hs; exact False.elim q
  | next => obtain ⟨σ', H', J, q⟩ := hs; exact fin (v := V.non) (u := Value.none) J rfl q
  | ret u => obtain ⟨v, σ', H', J, rv, q⟩ := hs; exact fin J rv q
/-! ### the end of a law -/
theorem law_callG {P : Program} {w : World} {K : PySem.W.Frag} {mg mb : Str → Option Value} {CX : CXT} {k : Nat} {fa a : Addr} {fd : FuncData} {x : Str} {sp : Sp} {t1 : Shared} {vs : List Value} {ns : List Int}
    (KX : K.In t1.heap) (hns : t1.heap.Ns mainGlobals mg) (hb : t1.heap.Ns builtinsNs mb) (hbb : ∀ y : Str, y ≠ "__name__" → mb y = bootBuiltins y) (hlim : t1.heap.NoLimit) (hg : t1.gens = #[])
    (ha : t1.heap.get? a = some { cls := .type "list", data := .seq vs.toArray }) (hi : IntsAre vs ns) (hl : ns.length ≤ sizeLine) (hr : Room k callerA)
    (F : ∀ bs : Heap, K.In bs → bs.Ns mainGlobals mg → FnG P w K mg bs CX k fa fd [x] sp) (hbind : ∀ (s : Shared) (u : Value), BindsTo s fd ⟨[u], []⟩ [(x, u)])
    (hsp : ∀ H : Hp, Only H → SqL K H a (ns.map V.int) → sp [.ref a] H (fun v _ => v = .bl true) fun _ _ _ => False)
    (hCX : ∀ H e s', CX [] H t1 (fun _ _ _ => False) e s' → False) :
    codeAny (model P w) callerA (.call (.ref fa) ⟨[.ref a], []⟩) (fun r s' => r = .ok (.ret (.bool true)) ∧ OldK t1.heap s'.heap ∧ s'.os = t1.os ∧ AllBare s'.gens) t1 := by
  have rv := vals_ints hi
  have lenV := hi.length
  have core : ∀ H : Hp, Only H → SqL K H a (ns.map V.int) → HOk P w H t1.heap → (∀ b, H b ≠ none → b = a) → (H a ≠ none → K.lookup a = none) →
      codeAny (model P w) callerA (.call (.ref fa) ⟨[.ref a], []⟩) (fun r s' => r = .ok (.ret (.bool true)) ∧ OldK t1.heap s'.heap ∧ s'.os = t1.os ∧ AllBare s'.gens) t1 := by
    intro H hO hS hok hA hK
    have baseOf : ∀ {b : Addr} {o : Obj}, t1.heap.get? b = some o → H b = none → (hidT t1.heap H).get? b = some o := fun e n => hidT_get e n
    have aOf : ∀ {b : Addr} {u : HO}, H b = some u → b = a := fun {b u} q => hA b (by rw [q]; simp)
    have noD : ∀ {b : Addr} {o : Obj} {es : Array DictEntry} {ep : Nat}, t1.heap.get? b = some o → o.data = .dict es ep → H b = none := by
      intro b o es ep e d
      cases q : H b with
      | none => rfl
      | some u =>
        obtain rfl := aOf q
        rw [ha] at e
        cases e
        cases (show Data.seq vs.toArray _ = Data.dict es ep from d)
    have nsK : ∀ {b : Addr} {m : Str → Option Value}, t1.heap.Ns b m → (hidT t1.heap H).Ns b m := by
      rintro b m ⟨o, es, ep, e, d, r⟩
      exact ⟨o, es, ep, baseOf e (noD e d), d, r⟩
    have hKb : K.In (hidT t1.heap H) := by
      intro b o e
      refine baseOf (KX b o e) ?_
      cases q : H b with
      | none => rfl
      | some u =>
        obtain rfl := aOf q
        rw [hK (by rw [q]; simp)] at e
        cases e
    obtain ⟨mc, l1, l2⟩ := hlim
    have e0 : Env0 P w K mg (hidT t1.heap H) callerA [] t1 H := ⟨rfl, ⟨hKb, nsK hns, ⟨mb, nsK hb, hbb⟩, mc, nsK l1, l2⟩, fun b o e => of_hidT e, Nat.le_of_eq (hidT_size _ _), trivial, (fun b hb => by cases hb), hok, .of_eq hg⟩
    refine codeAny_mono ((F _ hKb (nsK hns)).run callerA [] t1 H ⟨[.ref a], []⟩ [.ref a] [.ref a] _ _ rfl hr e0 (hbind t1 (.ref a)) (.cons rfl .nil) (hsp H hO hS)) ?_
    intro r s' h
    cases r with
    | error e => exact (hCX H e s' h).elim
    | ok fl => cases fl with
      | next => exact False.elim h
      | brk => exact False.elim h
      | cont => exact False.elim h
      | ret u =>
        obtain ⟨v, H', os, bare, un, hok', r', q⟩ := h
        obtain rfl : v = .bl true := q
        obtain rfl : u = Value.bool true := r'
        refine ⟨rfl, OldK.of_keep ?_, os, bare⟩
        intro b o e
        cases q : H b with
        | none => exact un.keep b o e q (by intro z; cases z) (by simp)
        | some u =>
          rcases hO b with z | ⟨ob, xs, z⟩
          · rw [q] at z; cases z
          · obtain ⟨e1, _⟩ := hok b _ z
            obtain ⟨e2, _⟩ := hok' b _ (un.frzs b ob _ z)
            rw [e] at e1
            cases e1
            exact e2
  cases hk : K.lookup a with
  | some o =>
    have e := KX a o hk
    rw [ha] at e
    cases e
    refine core (fun _ => none) (fun _ => .inl rfl) (.inr ⟨_, vs.toArray, _, hk, rfl, rfl, rfl, ?_, by simpa using rv⟩) ?_ (fun b z => absurd rfl z) fun z => absurd rfl z
    · rw [List.size_toArray, lenV]; exact hl
    · intro b u z
      cases (show (none : Option HO) = some u from z)
  | none =>
    have at' : ∀ {b : Addr} {u : HO}, (if b = a then some (HO.frz { cls := .type "list", data := .seq vs.toArray } (.lst (ns.map V.int))) else none) = some u → b = a ∧ u = HO.frz { cls := .type "list", data := .seq vs.toArray } (.lst (ns.map V.int)) := by
      intro b u z
      split at z
      · rename_i hb; exact ⟨hb, (Option.some.inj z).symm⟩
      · cases z
    refine core (fun b => if b = a then some (.frz { cls := .type "list", data := .seq vs.toArray } (.lst (ns.map V.int))) else none) (fun b => ?_) (.inl (.inr ⟨{ cls := .type "list", data := .seq vs.toArray }, if_pos rfl⟩)) (fun b u z => ?_) (fun b z => ?_) fun _ => hk
    · by_cases h : b = a
      · exact .inr ⟨_, _, if_pos h⟩
      · exact .inl (if_neg h)
    · obtain ⟨rfl, rfl⟩ := at' z
      exact ⟨ha, by rw [List.length_map]; exact hl, vs, _, rv, ha⟩
    · by_cases h : b = a
      · exact h
      · exact absurd (if_neg h) z
theorem walk_ofG {l : PySem.W.OpenLaw} {n k : Nat} {q : Program} {loose : List Str} {XP : (Str → Option Value) → Heap → Prop} {YP : World → Heap → Prop} {d : DefRec} {K : Params → PySem.W.Frag} {CX : World → CXT} {sp : World → Sp} {x : Str}
    (hn : l.most = some n) (hn2 : n ≤ sizeLine) (hdf : d.params.defaults = []) (hr : Room k callerA) (hY : ∀ (w : World) (h : Heap), YP w h → (K w.params).In h)
    (F : ∀ (w : World) (mg : Str → Option Value) (fa : Addr) (h : Heap), (K w.params).In h → h.Ns mainGlobals mg → mg d.name = some (.ref fa) →
      ∃ fd : FuncData, (∀ (s : Shared) (u : Value), BindsTo s fd ⟨[u], []⟩ [(x, u)]) ∧ ∀ bs : Heap, (K w.params).In bs → bs.Ns mainGlobals mg → FnG l.prog w (K w.params) mg bs (CX w) k fa fd [x] (sp w))
    (hsp : ∀ (w : World) (H : Hp) (a : Addr) (ns : List Int), ns.length ≤ n → Only H → SqL (K w.params) H a (ns.map V.int) → sp w [.ref a] H (fun v _ => v = .bl true) fun _ _ _ => False)
    (hCX : ∀ (w : World) (H : Hp) (s : Shared) (e : Value) (s' : Shared), CX w [] H s (fun _ _ _ => False) e s' → False) :
    PySem.W.WalkO q loose XP YP l.row.toRowW d [] (fun f vs => PySem.call f vs) := by
  refine Att.attach_call hn hdf ?_
  intro w s₀ t1 mg mb fa o pm cd doc a vs ns G Y ho hd hcd hmg hobj hints hlen hg
  have KX := hY w _ Y
  obtain ⟨fd, hb, hF⟩ := F w mg fa _ KX G.T.g hmg
  exact law_callG KX G.T.g G.T.b G.T.builtins G.T.nolimit hg hobj hints (Nat.le_trans hlen hn2) hr hF hb (fun H hO hS => hsp w H a ns hlen hO hS) fun H e s' => hCX w H t1 e s'
end KP

/-! the layer of data: values without addresses for what cannot change, numbers for what can, an evaluator that is a function -/
namespace KP
open PySem PySem.Spec PyProof.Rows L2

/-- values: a tuple is its items, a list (a dict, an object) is its number in the memory; lst: a list that nobody changes; fl: one that nobody can change (the script) -/
inductive D where
  | non | bl (b : Bool) | int (i : Int) | str (x : List Nat) | tup (xs : List D) | lst (xs : List D) | fl (xs : List D) | ref (n : Nat) | ty (n : String)
  deriving Inhabited

/-- what the memory holds -/
inductive MO where
  | lst (xs : List D)
  | dct (kvs : List (Key × D))
  | dtt (kvs : List (List Key × D)) | dctF (kvs : List (Key × D)) | dttF (kvs : List (List Key × D))
  deriving Inhabited

abbrev Mem := List MO

def kD : Key → D
  | .inl i => .int i
  | .inr x => .str x.cps.toList

/-- the numbers of addresses, and the addresses that nobody has in hand -/
structure Nu where
  num : List Addr
  res : List Addr
def Nu.push (ρ : Nu) (p : Addr) : Nu := ⟨ρ.num ++ [p], ρ.res⟩
/-- a list that can't change -/
def FzL (K : PySem.W.Frag) (H : Hp) (a : Addr) (vs : List V) : Prop := (∃ o, H a = some (.frz o (.lst vs))) ∨
  ∃ (o : Obj) (its : Array Value) (n : Nat), K.lookup a = some o ∧ o.cls = .type "list" ∧ o.dict = none ∧ o.data = .seq its n ∧ its.size ≤ sizeLine ∧ Vals vs its.toList
theorem FzL.sq {K : PySem.W.Frag} {H : Hp} {a : Addr} {vs : List V} (h : FzL K H a vs) : SqL K H a vs := by
  rcases h with ⟨o, h⟩ | h
  · exact .inl (.inr ⟨o, h⟩)
  · exact .inr h
/-- a list of texts -/
def strsB : List D → Bool
  | [] => true
  | .str _ :: ds => strsB ds
  | _ => false
/-- a tuple: one that the run has made, or one of texts that stood before -/
def SqD (K : PySem.W.Frag) (H : Hp) (a : Addr) (ds : List D) (vs : List V) : Prop := H a = some (.tup vs) ∨ (SqT K H a vs ∧ strsB ds = true)
theorem SqD.sq {K : PySem.W.Frag} {H : Hp} {a : Addr} {ds : List D} {vs : List V} (h : SqD K H a ds vs) : SqT K H a vs := by
  rcases h with h | h
  · exact .inl (.inl h)
  · exact h.1
instance {K : PySem.W.Frag} {H : Hp} {a : Addr} {ds : List D} {vs : List V} : CoeOut (SqD K H a ds vs) (SqT K H a vs) := ⟨SqD.sq⟩
theorem SqD.map {K : PySem.W.Frag} {H H' : Hp} {a : Addr} {ds : List D} {vs : List V} (h : SqD K H a ds vs) (h1 : SqT K H a vs → SqT K H' a vs) (h2 : H a = some (.tup vs) → H' a = some (.tup vs)) : SqD K H' a ds vs := by
  rcases h with h | h
  · exact .inl (h2 h)
  · exact .inr ⟨h1 h.1, h.2⟩
mutual
inductive Den (K : PySem.W.Frag) (ρ : Nu) (H : Hp) : D → V → Prop
  | non : Den K ρ H .non .non
  | bl (b : Bool) : Den K ρ H (.bl b) (.bl b)
  | int (i : Int) : Den K ρ H (.int i) (.int i)
  | str (x : List Nat) : Den K ρ H (.str x) (.str ⟨x.toArray⟩)
  | tup {ds : List D} {a : Addr} {vs : List V} : SqD K H a ds vs → Dens K ρ H ds vs → Den K ρ H (.tup ds) (.ref a)
  | lst {ds : List D} {a : Addr} {vs : List V} : a ∉ ρ.num → a ∉ ρ.res → H a = some (.lst vs) → Dens K ρ H ds vs → Den K ρ H (.lst ds) (.ref a)
  | fl {ds : List D} {a : Addr} {vs : List V} : FzL K H a vs → Dens K ρ H ds vs → Den K ρ H (.fl ds) (.ref a)
  | ref {n : Nat} {a : Addr} : ρ.num[n]? = some a → Den K ρ H (.ref n) (.ref a)
  | ty (n : String) : Den K ρ H (.ty n) (.ty n)
inductive Dens (K : PySem.W.Frag) (ρ : Nu) (H : Hp) : List D → List V → Prop
  | nil : Dens K ρ H [] []
  | cons {d : D} {v : V} {ds : List D} {vs : List V} : Den K ρ H d v → Dens K ρ H ds vs → Dens K ρ H (d :: ds) (v :: vs)
end

section
variable {K : PySem.W.Frag} {ρ ρ' : Nu} {H H' : Hp}
theorem Dens.length : ∀ {ds : List D} {vs : List V}, Dens K ρ H ds vs → ds.length = vs.length
  | _, _, .nil => rfl
  | _, _, .cons _ t => by rw [List.length_cons, List.length_cons, Dens.length t]
theorem Dens.get : ∀ {ds : List D} {vs : List V} {i : Nat} {d : D}, Dens K ρ H ds vs → ds[i]? = some d → ∃ v, vs[i]? = some v ∧ Den K ρ H d v
  | _, _, _, _, .nil, e => by simp at e
  | _, _, 0, _, .cons r _, e => by simp at e; subst e; exact ⟨_, rfl, r⟩
  | _, _, i + 1, d, .cons _ t, e => by
    obtain ⟨u, h1, h2⟩ := Dens.get (i := i) (d := d) t (by simpa using e)
    exact ⟨u, by simpa using h1, h2⟩
theorem Dens.getV {ds : List D} {vs : List V} {i : Nat} {v : V} (h : Dens K ρ H ds vs) (e : vs[i]? = some v) : ∃ d, ds[i]? = some d ∧ Den K ρ H d v := by
  have hl := h.length
  have hi : i < ds.length := by rw [hl]; exact (List.getElem?_eq_some_iff.mp e).1
  obtain ⟨v', e', r⟩ := h.get (List.getElem?_eq_getElem hi)
  rw [e] at e'; cases e'
  exact ⟨_, List.getElem?_eq_getElem hi, r⟩
theorem Dens.of_get : ∀ {ds : List D} {vs : List V}, ds.length = vs.length → (∀ (i : Nat) (d : D) (v : V), ds[i]? = some d → vs[i]? = some v → Den K ρ H d v) → Dens K ρ H ds vs
  | [], [], _, _ => .nil
  | [], _ :: _, h, _ => by simp at h
  | _ :: _, [], h, _ => by simp at h
  | d :: ds, v :: vs, h, g => .cons (g 0 d v rfl rfl) (Dens.of_get (by simpa using h) fun i a b e1 e2 => g (i + 1) a b (by simpa using e1) (by simpa using e2))
theorem Dens.append : ∀ {ds es : List D} {vs us : List V}, Dens K ρ H ds vs → Dens K ρ H es us → Dens K ρ H (ds ++ es) (vs ++ us)
  | _, _, _, _, .nil, s => s
  | _, _, _, _, .cons r t, s => .cons r (Dens.append t s)
theorem Dens.two {ds : List D} {vs : List V} (h : Dens K ρ H ds vs) {i : Nat} {d : D} {v : V} (e1 : ds[i]? = some d) (e2 : vs[i]? = some v) : Den K ρ H d v := by
  obtain ⟨u, e, r⟩ := h.get e1
  rw [e2] at e; cases e; exact r
theorem Dens.set {ds : List D} {vs : List V} (h : Dens K ρ H ds vs) (n : Nat) {d : D} {v : V} (r : Den K ρ H d v) : Dens K ρ H (ds.set n d) (vs.set n v) := by
  refine .of_get (by simp [h.length]) fun i a b e1 e2 => ?_
  rw [List.getElem?_set] at e1 e2
  split at e1
  · rename_i hi
    subst hi
    simp only [if_true] at e2
    split at e1
    · rename_i hl
      rw [if_pos (by rw [← h.length]; exact hl)] at e2
      cases e1; cases e2; exact r
    · cases e1
  · rename_i hi
    rw [if_neg hi] at e2
    exact h.two e1 e2
theorem Dens.take : ∀ {ds : List D} {vs : List V} (n : Nat), Dens K ρ H ds vs → Dens K ρ H (ds.take n) (vs.take n)
  | _, _, 0, _ => .nil
  | _, _, _ + 1, .nil => .nil
  | _, _, n + 1, .cons r t => .cons r (Dens.take n t)
theorem Dens.drop : ∀ {ds : List D} {vs : List V} (n : Nat), Dens K ρ H ds vs → Dens K ρ H (ds.drop n) (vs.drop n)
  | _, _, 0, r => r
  | _, _, _ + 1, .nil => .nil
  | _, _, n + 1, .cons _ t => Dens.drop n t
theorem Dens.eraseIdx : ∀ {ds : List D} {vs : List V} (n : Nat), Dens K ρ H ds vs → Dens K ρ H (ds.eraseIdx n) (vs.eraseIdx n)
  | _, _, _, .nil => .nil
  | _, _, 0, .cons _ t => t
  | _, _, n + 1, .cons r t => .cons r (Dens.eraseIdx n t)
theorem Dens.reverse : ∀ {ds : List D} {vs : List V}, Dens K ρ H ds vs → Dens K ρ H ds.reverse vs.reverse
  | _, _, .nil => .nil
  | _, _, .cons r t => by rw [List.reverse_cons, List.reverse_cons]; exact (Dens.reverse t).append (.cons r .nil)
theorem Dens.replicate (n : Nat) {ds : List D} {vs : List V} (h : Dens K ρ H ds vs) : Dens K ρ H (List.replicate n ds).flatten (List.replicate n vs).flatten := by
  induction n with
  | zero => exact .nil
  | succ n ih => rw [List.replicate_succ, List.replicate_succ, List.flatten_cons, List.flatten_cons]; exact h.append ih

/-- the memory goes on: new numbers for new addresses; what has no number stands as it stood -/
structure Ext (ρ : Nu) (H : Hp) (ρ' : Nu) (H' : Hp) : Prop where
  pre : ∃ l, ρ'.num = ρ.num ++ l ∧ ∀ b ∈ l, H b = none
  res : ρ'.res = ρ.res
  keep : ∀ b o, H b = some o → (b ∉ ρ.num ∨ ∃ od w, o = .frz od w) → H' b = some o
  live : ∀ b, H b ≠ none → H' b ≠ none
theorem nfz {a : Addr} {u : HO} (h : H a = some u) (hu : ∀ od w, u ≠ .frz od w := by intro _ _ z; cases z) : ∀ od w, H a ≠ some (.frz od w) := fun od w e => hu od w (by rw [h] at e; exact Option.some.inj e)
theorem Ext.refl : Ext ρ H ρ H := ⟨⟨[], by simp⟩, rfl, fun _ _ h _ => h, fun _ h => h⟩
theorem Ext.trans {ρ2 : Nu} {H2 : Hp} (a : Ext ρ H ρ' H') (b : Ext ρ' H' ρ2 H2) : Ext ρ H ρ2 H2 := by
  obtain ⟨⟨l1, e1, n1⟩, r1, k1, v1⟩ := a
  obtain ⟨⟨l2, e2, n2⟩, r2, k2, v2⟩ := b
  refine ⟨⟨l1 ++ l2, by rw [e2, e1, List.append_assoc], fun c hc => ?_⟩, r2.trans r1, fun c o h hc => ?_, fun b h => v2 b (v1 b h)⟩
  · rcases List.mem_append.mp hc with hc | hc
    · exact n1 c hc
    · cases q : H c with
      | none => rfl
      | some o => exact absurd (n2 c hc) (v1 c (by rw [q]; simp))
  · refine k2 c o (k1 c o h hc) ?_
    rcases hc with hc | hc
    · refine .inl fun hm => ?_
      rw [e1] at hm
      rcases List.mem_append.mp hm with hm | hm
      · exact hc hm
      · rw [n1 c hm] at h; cases h
    · exact .inr hc
theorem Ext.get (a : Ext ρ H ρ' H') {n : Nat} {x : Addr} (h : ρ.num[n]? = some x) : ρ'.num[n]? = some x := by
  obtain ⟨l, e, _⟩ := a.pre
  rw [e, List.getElem?_append_left (List.getElem?_eq_some_iff.mp h).1]; exact h
theorem upd_live {p b : Addr} {o : HO} (e : H b ≠ none) : upd H p o b ≠ none := by
  unfold upd
  split
  · simp
  · exact e
/-- an object that is laid and has no number -/
theorem Ext.laid {p : Addr} {o : HO} (h : H p = none) : Ext ρ H ρ (upd H p o) :=
  ⟨⟨[], by simp⟩, rfl, fun b u e _ => by rw [upd_ne (ne_of_none e h)]; exact e, fun b e => upd_live e⟩
theorem Ext.new {p : Addr} {o : HO} (h : H p = none) : Ext ρ H (ρ.push p) (upd H p o) :=
  ⟨⟨[p], rfl, fun b hb => by rw [List.mem_singleton.mp hb]; exact h⟩, rfl, (Ext.laid (ρ := ρ) h).keep, (Ext.laid (ρ := ρ) (o := o) h).live⟩
theorem Ext.write {a : Addr} {o : HO} (h : a ∈ ρ.num) (hne : ∀ od w, H a ≠ some (.frz od w)) : Ext ρ H ρ (upd H a o) :=
  ⟨⟨[], by simp⟩, rfl, fun b u e hb => by
    rw [upd_ne (fun z => ?_)]
    · exact e
    · rcases hb with hb | ⟨od, w, hb⟩
      · exact hb (by rw [z]; exact h)
      · subst z hb; exact hne _ _ e, fun b e => upd_live e⟩

/-- the same, and more may be held back -/
structure ExtR (ρ : Nu) (H : Hp) (ρ' : Nu) (H' : Hp) : Prop where
  pre : ∃ l, ρ'.num = ρ.num ++ l ∧ ∀ b ∈ l, H b = none
  res : ∀ b ∈ ρ'.res, b ∈ ρ.res ∨ H b = none
  keep : ∀ b o, H b = some o → (b ∉ ρ.num ∨ ∃ od w, o = .frz od w) → H' b = some o
theorem Ext.toR (x : Ext ρ H ρ' H') : ExtR ρ H ρ' H' := ⟨x.pre, fun b hb => .inl (by rw [← x.res]; exact hb), x.keep⟩
theorem ExtR.get (a : ExtR ρ H ρ' H') {n : Nat} {x : Addr} (h : ρ.num[n]? = some x) : ρ'.num[n]? = some x := by
  obtain ⟨l, e, _⟩ := a.pre
  rw [e, List.getElem?_append_left (List.getElem?_eq_some_iff.mp h).1]; exact h
/-- an object by its content -/
def RepO (K : PySem.W.Frag) (ρ : Nu) (H : Hp) (a : Addr) : MO → Prop
  | .lst ds => ∃ vs, H a = some (.lst vs) ∧ Dens K ρ H ds vs
  | .dct kvs => ∃ es : List (Key × V), H a = some (.dK es) ∧ kvs.map (·.1) = es.map (·.1) ∧ Dens K ρ H (kvs.map (·.2)) (es.map (·.2))
  | .dtt kvs => ∃ es : List (List Key × V), H a = some (.dT es) ∧ kvs.map (·.1) = es.map (·.1) ∧ Dens K ρ H (kvs.map (·.2)) (es.map (·.2))
  | .dctF kvs => ∃ (es : List (Key × V)) (od : Obj), H a = some (.frz od (.dK es)) ∧ kvs.map (·.1) = es.map (·.1) ∧ Dens K ρ H (kvs.map (·.2)) (es.map (·.2))
  | .dttF kvs => ∃ (es : List (List Key × V)) (od : Obj), H a = some (.frz od (.dT es)) ∧ kvs.map (·.1) = es.map (·.1) ∧ Dens K ρ H (kvs.map (·.2)) (es.map (·.2))
theorem RepO.mut {a : Addr} {o : MO} (h : RepO K ρ H a o) : ∃ u, H a = some u ∧ (∀ xs, u ≠ .tup xs) := by
  cases o with
  | lst ds => obtain ⟨vs, e, _⟩ := h; exact ⟨_, e, (fun xs z => by cases z)⟩
  | dct kvs => obtain ⟨vs, e, _⟩ := h; exact ⟨_, e, (fun xs z => by cases z)⟩
  | dtt kvs => obtain ⟨vs, e, _⟩ := h; exact ⟨_, e, (fun xs z => by cases z)⟩
  | dctF kvs => obtain ⟨vs, od, e, _⟩ := h; exact ⟨_, e, (fun xs z => by cases z)⟩
  | dttF kvs => obtain ⟨vs, od, e, _⟩ := h; exact ⟨_, e, (fun xs z => by cases z)⟩
structure Rep (K : PySem.W.Frag) (ρ : Nu) (M : Mem) (H : Hp) : Prop where
  len : ρ.num.length = M.length
  nd : ρ.num.Nodup
  obj : ∀ (i : Nat) (a : Addr) (o : MO), ρ.num[i]? = some a → M[i]? = some o → RepO K ρ H a o
  held : ∀ z ∈ ρ.res, H z ≠ none ∧ z ∉ ρ.num

theorem Rep.mem {M : Mem} (R : Rep K ρ M H) {a : Addr} (h : a ∈ ρ.num) : ∃ (i : Nat) (o : MO), ρ.num[i]? = some a ∧ M[i]? = some o ∧ RepO K ρ H a o := by
  obtain ⟨i, hi, e⟩ := List.getElem_of_mem h
  have e1 : ρ.num[i]? = some a := by rw [List.getElem?_eq_getElem hi, e]
  have hM : i < M.length := by rw [← R.len]; exact hi
  have e2 : M[i]? = some (M[i]'hM) := List.getElem?_eq_getElem hM
  exact ⟨i, _, e1, e2, R.obj i a _ e1 e2⟩
theorem Rep.notIn {M : Mem} (R : Rep K ρ M H) {a : Addr} {u : HO} (h : H a = some u) (hu : ∃ xs, u = .tup xs) : a ∉ ρ.num := fun hm => by
  obtain ⟨i, o, _, _, q⟩ := R.mem hm
  obtain ⟨u', e, n1⟩ := q.mut
  rw [h] at e; cases e
  obtain ⟨xs, z⟩ := hu
  exact n1 xs z
theorem Rep.fresh {M : Mem} (R : Rep K ρ M H) {a : Addr} (h : H a = none) : a ∉ ρ.num := fun hm => by
  obtain ⟨i, o, _, _, q⟩ := R.mem hm
  obtain ⟨u', e, _⟩ := q.mut
  rw [h] at e; cases e
theorem Rep.free {M : Mem} (R : Rep K ρ M H) {a : Addr} (h : H a = none) : a ∉ ρ.res := fun hm => (R.held a hm).1 h
theorem sqT_ext {M : Mem} (R : Rep K ρ M H) (x : ExtR ρ H ρ' H') {a : Addr} {vs : List V} (h : SqT K H a vs) : SqT K H' a vs := by
  rcases h with h | h
  · rcases h with h | ⟨o, h⟩
    · exact .inl (.inl (x.keep a _ h (.inl (R.notIn h ⟨_, rfl⟩))))
    · exact .inl (.inr ⟨o, x.keep a _ h (.inr ⟨_, _, rfl⟩)⟩)
  · exact .inr h
theorem fzL_ext {M : Mem} (R : Rep K ρ M H) (x : ExtR ρ H ρ' H') {a : Addr} {vs : List V} (h : FzL K H a vs) : FzL K H' a vs := by
  rcases h with ⟨o, h⟩ | h
  · exact .inl ⟨o, x.keep a _ h (.inr ⟨_, _, rfl⟩)⟩
  · exact .inr h
theorem ExtR.out (x : ExtR ρ H ρ' H') {a : Addr} {o : HO} (h1 : a ∉ ρ.num) (h : H a = some o) : a ∉ ρ'.num := fun hm => by
  obtain ⟨l, e, n⟩ := x.pre
  rw [e] at hm
  rcases List.mem_append.mp hm with hm | hm
  · exact h1 hm
  · rw [n a hm] at h; cases h
theorem ExtR.outR (x : ExtR ρ H ρ' H') {a : Addr} {o : HO} (h1 : a ∉ ρ.res) (h : H a = some o) : a ∉ ρ'.res := fun hm => by
  rcases x.res a hm with hm | hm
  · exact h1 hm
  · rw [hm] at h; cases h
mutual
theorem Den.extR {M : Mem} (R : Rep K ρ M H) (x : ExtR ρ H ρ' H') : ∀ {d : D} {v : V}, Den K ρ H d v → Den K ρ' H' d v
  | _, _, .non => .non
  | _, _, .bl b => .bl b
  | _, _, .int i => .int i
  | _, _, .str z => .str z
  | _, _, @Den.tup _ _ _ _ a _ h t => .tup (h.map (sqT_ext R x) fun h => x.keep a _ h (.inl (R.notIn h ⟨_, rfl⟩))) (Dens.extR R x t)
  | _, _, .lst h1 h2 h t => .lst (x.out h1 h) (x.outR h2 h) (x.keep _ _ h (.inl h1)) (Dens.extR R x t)
  | _, _, .fl h t => .fl (fzL_ext R x h) (Dens.extR R x t)
  | _, _, .ref h => .ref (x.get h)
  | _, _, .ty n => .ty n
theorem Dens.extR {M : Mem} (R : Rep K ρ M H) (x : ExtR ρ H ρ' H') : ∀ {ds : List D} {vs : List V}, Dens K ρ H ds vs → Dens K ρ' H' ds vs
  | _, _, .nil => .nil
  | _, _, .cons r t => .cons (Den.extR R x r) (Dens.extR R x t)
end
theorem Den.ext {M : Mem} (R : Rep K ρ M H) (x : Ext ρ H ρ' H') {d : D} {v : V} (h : Den K ρ H d v) : Den K ρ' H' d v := h.extR R x.toR
theorem Dens.ext {M : Mem} (R : Rep K ρ M H) (x : Ext ρ H ρ' H') {ds : List D} {vs : List V} (h : Dens K ρ H ds vs) : Dens K ρ' H' ds vs := h.extR R x.toR
theorem RepO.ext {M : Mem} (R : Rep K ρ M H) (x : Ext ρ H ρ' H') {a : Addr} {o : MO} (e : H' a = H a) (h : RepO K ρ H a o) : RepO K ρ' H' a o := by
  cases o with
  | lst ds => obtain ⟨vs, e1, t⟩ := h; exact ⟨vs, e.trans e1, t.ext R x⟩
  | dct kvs => obtain ⟨vs, e1, k, t⟩ := h; exact ⟨vs, e.trans e1, k, t.ext R x⟩
  | dtt kvs => obtain ⟨vs, e1, k, t⟩ := h; exact ⟨vs, e.trans e1, k, t.ext R x⟩
  | dctF kvs => obtain ⟨vs, od, e1, k, t⟩ := h; exact ⟨vs, od, e.trans e1, k, t.ext R x⟩
  | dttF kvs => obtain ⟨vs, od, e1, k, t⟩ := h; exact ⟨vs, od, e.trans e1, k, t.ext R x⟩
/-- something is laid that has no number -/
theorem Rep.laid {M : Mem} (R : Rep K ρ M H) {p : Addr} {u : HO} (h : H p = none) : Rep K ρ M (upd H p u) :=
  ⟨R.len, R.nd, fun i a o e1 e2 => (R.obj i a o e1 e2).ext R (.laid h) (upd_ne (fun z => R.fresh h (by rw [← z]; exact List.mem_of_getElem? e1))), fun z hz => ⟨upd_live (R.held z hz).1, (R.held z hz).2⟩⟩
/-- a new object -/
theorem Rep.new {M : Mem} (R : Rep K ρ M H) {p : Addr} {u : HO} {o : MO} (h : H p = none) (ho : RepO K (ρ.push p) (upd H p u) p o) : Rep K (ρ.push p) (M ++ [o]) (upd H p u) := by
  refine ⟨by simp [Nu.push, R.len], ?_, fun i a o' e1 e2 => ?_, fun z hz => ⟨upd_live (R.held z hz).1, fun hm => ?_⟩⟩
  · show (ρ.num ++ [p]).Nodup
    rw [List.nodup_append]
    refine ⟨R.nd, by simp, fun a ha b hb z => ?_⟩
    rw [List.mem_singleton.mp hb] at z
    exact R.fresh h (by rw [← z]; exact ha)
  · have e1 : (ρ.num ++ [p])[i]? = some a := e1
    by_cases hi : i < ρ.num.length
    · rw [List.getElem?_append_left hi] at e1
      rw [List.getElem?_append_left (by rw [← R.len]; exact hi)] at e2
      exact (R.obj i a o' e1 e2).ext R (.new h) (upd_ne (fun z => R.fresh h (by rw [← z]; exact List.mem_of_getElem? e1)))
    · have h2 : i = ρ.num.length := by
        have := (List.getElem?_eq_some_iff.mp e1).1
        simp at this; omega
      subst h2
      rw [List.getElem?_append_right (Nat.le_refl _), Nat.sub_self] at e1
      rw [R.len, List.getElem?_append_right (Nat.le_refl _), Nat.sub_self] at e2
      cases e1; cases e2; exact ho
  · have hm : z ∈ ρ.num ++ [p] := hm
    rcases List.mem_append.mp hm with hm | hm
    · exact (R.held z hz).2 hm
    · rw [List.mem_singleton.mp hm] at hz
      exact R.free h hz
/-- an object is written -/
theorem Rep.write {M : Mem} (R : Rep K ρ M H) {n : Nat} {a : Addr} {u : HO} {o : MO} (h : ρ.num[n]? = some a) (hne : ∀ od w, H a ≠ some (.frz od w)) (ho : RepO K ρ (upd H a u) a o) : Rep K ρ (M.set n o) (upd H a u) := by
  refine ⟨by simp [R.len], R.nd, fun i b o' e1 e2 => ?_, fun z hz => ⟨upd_live (R.held z hz).1, (R.held z hz).2⟩⟩
  by_cases hi : i = n
  · subst hi
    rw [h] at e1; cases e1
    rw [List.getElem?_set_self (by rw [← R.len]; exact (List.getElem?_eq_some_iff.mp h).1)] at e2
    cases e2; exact ho
  · rw [List.getElem?_set_ne (Ne.symm hi)] at e2
    refine (R.obj i b o' e1 e2).ext R (.write (List.mem_of_getElem? h) hne) (upd_ne fun z => hi ?_)
    subst z
    obtain ⟨h1, q1⟩ := List.getElem?_eq_some_iff.mp h
    obtain ⟨h2, q2⟩ := List.getElem?_eq_some_iff.mp e1
    exact (List.getElem_inj R.nd).mp (q2.trans q1.symm)

/-! a list that is being made: nobody has it in hand -/
def Nu.hold (ρ : Nu) (p : Addr) : Nu := ⟨ρ.num, p :: ρ.res⟩
mutual
theorem Den.hold {p : Addr} {o : HO} (h : H p = none) : ∀ {d : D} {v : V}, Den K ρ H d v → Den K (ρ.hold p) (upd H p o) d v
  | _, _, .non => .non
  | _, _, .bl b => .bl b
  | _, _, .int i => .int i
  | _, _, .str z => .str z
  | _, _, .tup hs t => .tup (hs.map (fun hs => by
      rcases hs with (hs | ⟨ob, hs⟩) | hs
      · exact .inl (.inl (by rw [upd_ne (ne_of_none hs h)]; exact hs))
      · exact .inl (.inr ⟨ob, by rw [upd_ne (ne_of_none hs h)]; exact hs⟩)
      · exact .inr hs) fun hs => by rw [upd_ne (ne_of_none hs h)]; exact hs) (Dens.hold h t)
  | _, _, .lst h1 h2 hs t => .lst h1 (by
      intro hm
      rcases List.mem_cons.mp hm with e | hm
      · rw [e, h] at hs; cases hs
      · exact h2 hm) (by rw [upd_ne (ne_of_none hs h)]; exact hs) (Dens.hold h t)
  | _, _, .fl hs t => .fl (by
      rcases hs with ⟨ob, hs⟩ | hs
      · exact .inl ⟨ob, by rw [upd_ne (ne_of_none hs h)]; exact hs⟩
      · exact .inr hs) (Dens.hold h t)
  | _, _, .ref hr => .ref hr
  | _, _, .ty n => .ty n
theorem Dens.hold {p : Addr} {o : HO} (h : H p = none) : ∀ {ds : List D} {vs : List V}, Dens K ρ H ds vs → Dens K (ρ.hold p) (upd H p o) ds vs
  | _, _, .nil => .nil
  | _, _, .cons r t => .cons (Den.hold h r) (Dens.hold h t)
end
mutual
theorem Den.held {p : Addr} {xs ys : List V} (hp : p ∈ ρ.res) (h : H p = some (.lst xs)) : ∀ {d : D} {v : V}, Den K ρ H d v → Den K ρ (upd H p (.lst ys)) d v
  | _, _, .non => .non
  | _, _, .bl b => .bl b
  | _, _, .int i => .int i
  | _, _, .str z => .str z
  | _, _, .tup hs t => .tup (hs.map (fun hs => by
      rcases hs with (hs | ⟨ob, hs⟩) | hs
      · exact .inl (.inl (by rw [upd_ne (ne_of hs h (by simp))]; exact hs))
      · exact .inl (.inr ⟨ob, by rw [upd_ne (ne_of hs h (by simp))]; exact hs⟩)
      · exact .inr hs) fun hs => by rw [upd_ne (ne_of hs h (by simp))]; exact hs) (Dens.held hp h t)
  | _, _, .lst h1 h2 hs t => .lst h1 h2 (by rw [upd_ne (fun e => h2 (by rw [e]; exact hp))]; exact hs) (Dens.held hp h t)
  | _, _, .fl hs t => .fl (by
      rcases hs with ⟨ob, hs⟩ | hs
      · exact .inl ⟨ob, by rw [upd_ne (ne_of hs h (by simp))]; exact hs⟩
      · exact .inr hs) (Dens.held hp h t)
  | _, _, .ref hr => .ref hr
  | _, _, .ty n => .ty n
theorem Dens.held {p : Addr} {xs ys : List V} (hp : p ∈ ρ.res) (h : H p = some (.lst xs)) : ∀ {ds : List D} {vs : List V}, Dens K ρ H ds vs → Dens K ρ (upd H p (.lst ys)) ds vs
  | _, _, .nil => .nil
  | _, _, .cons r t => .cons (Den.held hp h r) (Dens.held hp h t)
end
mutual
/-- the numbers are the same, less is held back -/
theorem Den.free (hn : ρ'.num = ρ.num) (hr : ∀ b ∈ ρ'.res, b ∈ ρ.res) : ∀ {d : D} {v : V}, Den K ρ H d v → Den K ρ' H d v
  | _, _, .non => .non
  | _, _, .bl b => .bl b
  | _, _, .int i => .int i
  | _, _, .str z => .str z
  | _, _, .tup hs t => .tup hs (Dens.free hn hr t)
  | _, _, .lst h1 h2 hs t => .lst (by rw [hn]; exact h1) (fun hm => h2 (hr _ hm)) hs (Dens.free hn hr t)
  | _, _, .fl hs t => .fl hs (Dens.free hn hr t)
  | _, _, .ref h => .ref (by rw [hn]; exact h)
  | _, _, .ty n => .ty n
theorem Dens.free (hn : ρ'.num = ρ.num) (hr : ∀ b ∈ ρ'.res, b ∈ ρ.res) : ∀ {ds : List D} {vs : List V}, Dens K ρ H ds vs → Dens K ρ' H ds vs
  | _, _, .nil => .nil
  | _, _, .cons r t => .cons (Den.free hn hr r) (Dens.free hn hr t)
end
theorem RepO.map {a a' : Addr} {o : MO} (h : RepO K ρ H a o) (e : H' a = H a) (f : ∀ {ds vs}, Dens K ρ H ds vs → Dens K ρ' H' ds vs) : RepO K ρ' H' a o := by
  cases o with
  | lst ds => obtain ⟨vs, e1, t⟩ := h; exact ⟨vs, e.trans e1, f t⟩
  | dct kvs => obtain ⟨vs, e1, k, t⟩ := h; exact ⟨vs, e.trans e1, k, f t⟩
  | dtt kvs => obtain ⟨vs, e1, k, t⟩ := h; exact ⟨vs, e.trans e1, k, f t⟩
  | dctF kvs => obtain ⟨vs, od, e1, k, t⟩ := h; exact ⟨vs, od, e.trans e1, k, f t⟩
  | dttF kvs => obtain ⟨vs, od, e1, k, t⟩ := h; exact ⟨vs, od, e.trans e1, k, f t⟩
theorem Rep.hold {M : Mem} (R : Rep K ρ M H) {p : Addr} {o : HO} (h : H p = none) : Rep K (ρ.hold p) M (upd H p o) :=
  ⟨R.len, R.nd, fun i a u e1 e2 => (R.obj i a u e1 e2).map (a' := a) (upd_ne (fun z => R.fresh h (by rw [← z]; exact List.mem_of_getElem? e1))) (Dens.hold h), fun z hz => by
    rcases List.mem_cons.mp hz with e | hz
    · rw [e]; exact ⟨by rw [upd_same]; simp, R.fresh h⟩
    · exact ⟨upd_live (R.held z hz).1, (R.held z hz).2⟩⟩
theorem Rep.heldW {M : Mem} (R : Rep K ρ M H) {p : Addr} {xs ys : List V} (hp : p ∈ ρ.res) (h : H p = some (.lst xs)) : Rep K ρ M (upd H p (.lst ys)) :=
  ⟨R.len, R.nd, fun i a u e1 e2 => (R.obj i a u e1 e2).map (a' := a) (upd_ne (fun z => (R.held p hp).2 (by rw [← z]; exact List.mem_of_getElem? e1))) (Dens.held hp h), fun z hz => ⟨upd_live (R.held z hz).1, (R.held z hz).2⟩⟩
theorem Rep.freeR {M : Mem} (R : Rep K ρ M H) (hn : ρ'.num = ρ.num) (hr : ∀ b ∈ ρ'.res, b ∈ ρ.res) : Rep K ρ' M H :=
  ⟨by rw [hn]; exact R.len, by rw [hn]; exact R.nd, fun i a u e1 e2 => (R.obj i a u (by rw [← hn]; exact e1) e2).map (a' := a) rfl (Dens.free hn hr), fun z hz => by rw [hn]; exact R.held z (hr z hz)⟩
/-- the heap without p -/
def er (H : Hp) (p : Addr) : Hp := fun b => if b = p then none else H b
theorem er_ne {p b : Addr} (h : b ≠ p) : er H p b = H b := if_neg h
theorem er_same {p : Addr} : er H p p = none := if_pos rfl
theorem er_upd {p : Addr} {o : HO} (h : H p = none) : er (upd H p o) p = H := by
  funext b
  by_cases e : b = p
  · rw [e, er_same, h]
  · rw [er_ne e, upd_ne e]
theorem upd_er {p : Addr} {o : HO} (h : H p = some o) : upd (er H p) p o = H := by
  funext b
  by_cases e : b = p
  · rw [e, upd_same, h]
  · rw [upd_ne e, er_ne e]
theorem er_updw {p : Addr} {o : HO} : er (upd H p o) p = er H p := by
  funext b
  by_cases e : b = p
  · rw [e, er_same, er_same]
  · rw [er_ne e, er_ne e, upd_ne e]
mutual
theorem Den.er {p : Addr} {xs : List V} (h : H p = some (.lst xs)) : ∀ {d : D} {v : V}, Den K (ρ.hold p) H d v → Den K ρ (KP.er H p) d v
  | _, _, .non => .non
  | _, _, .bl b => .bl b
  | _, _, .int i => .int i
  | _, _, .str z => .str z
  | _, _, .tup hs t => .tup (hs.map (fun hs => by
      rcases hs with (hs | ⟨ob, hs⟩) | hs
      · exact .inl (.inl (by rw [er_ne (ne_of hs h (by simp))]; exact hs))
      · exact .inl (.inr ⟨ob, by rw [er_ne (ne_of hs h (by simp))]; exact hs⟩)
      · exact .inr hs) fun hs => by rw [er_ne (ne_of hs h (by simp))]; exact hs) (Dens.er h t)
  | _, _, .lst h1 h2 hs t => .lst h1 (fun hm => h2 (List.mem_cons_of_mem _ hm)) (by rw [er_ne (fun e => h2 (by rw [e]; exact List.mem_cons_self))]; exact hs) (Dens.er h t)
  | _, _, .fl hs t => .fl (by
      rcases hs with ⟨ob, hs⟩ | hs
      · exact .inl ⟨ob, by rw [er_ne (ne_of hs h (by simp))]; exact hs⟩
      · exact .inr hs) (Dens.er h t)
  | _, _, .ref hr => .ref hr
  | _, _, .ty n => .ty n
theorem Dens.er {p : Addr} {xs : List V} (h : H p = some (.lst xs)) : ∀ {ds : List D} {vs : List V}, Dens K (ρ.hold p) H ds vs → Dens K ρ (KP.er H p) ds vs
  | _, _, .nil => .nil
  | _, _, .cons r t => .cons (Den.er h r) (Dens.er h t)
end
theorem Rep.er {M : Mem} {p : Addr} {xs : List V} (R : Rep K (ρ.hold p) M H) (h : H p = some (.lst xs)) (hp : p ∉ ρ.res) : Rep K ρ M (KP.er H p) :=
  ⟨R.len, R.nd, fun i a u e1 e2 => (R.obj i a u e1 e2).map (a' := a) (er_ne (fun z => (R.held p List.mem_cons_self).2 (by rw [← z]; exact List.mem_of_getElem? e1))) (Dens.er h), fun z hz =>
    ⟨by rw [er_ne (fun e => hp (by rw [← e]; exact hz))]; exact (R.held z (List.mem_cons_of_mem _ hz)).1, (R.held z (List.mem_cons_of_mem _ hz)).2⟩⟩
theorem Ext.er {p : Addr} (x : Ext (ρ.hold p) H ρ' H') (h : H p ≠ none) : ρ' = (Nu.mk ρ'.num ρ.res).hold p ∧ Ext ρ (KP.er H p) ⟨ρ'.num, ρ.res⟩ (KP.er H' p) := by
  obtain ⟨pre, res, keep, live⟩ := x
  refine ⟨by
    obtain ⟨n', r'⟩ := ρ'
    have : r' = p :: ρ.res := res
    rw [this]
    rfl, ⟨?_, rfl, fun b o e hb => ?_, fun b e => ?_⟩⟩
  · obtain ⟨l, e, n⟩ := pre
    refine ⟨l, e, fun b hb => ?_⟩
    by_cases hbp : b = p
    · rw [hbp, er_same]
    · rw [er_ne hbp]; exact n b hb
  · have hbp : b ≠ p := fun z => by rw [z, er_same] at e; cases e
    rw [er_ne hbp] at e ⊢
    exact keep b o e hb
  · have hbp : b ≠ p := fun z => by rw [z, er_same] at e; exact e rfl
    rw [er_ne hbp] at e ⊢
    exact live b e
end

/-! ### what comes out -/
inductive Out (α : Type) where
  | ok (a : α) (M : Mem)
  | exc (n : Str) (fs : List (Str × D)) (M : Mem)
  | bad
def Out.bind {α β : Type} (x : Out α) (f : α → Mem → Out β) : Out β :=
  match x with
  | .ok a M => f a M
  | .exc n fs M => .exc n fs M
  | .bad => .bad
abbrev SD := List (Option D)
abbrev SF := SD → Mem → Out D
abbrev SFs := SD → Mem → Out (List D)
abbrev SB := SD → Mem → Out Bool

/-- what an exception that flies is to meet -/
def ExcM (K : PySem.W.Frag) (mg : Str → Option Value) (E : XK) (n : Str) (fs : List (Str × D)) (ρ : Nu) (H : Hp) : Prop :=
  ∀ (C d : Addr) (vs : List (Str × V)), mg n = some (.ref C) → H d = some (.xd vs) → fs.map (·.1) = vs.map (·.1) → Dens K ρ H (fs.map (·.2)) (vs.map (·.2)) → E (.ref C) (some d) H
def Post (K : PySem.W.Frag) (mg : Str → Option Value) (E : XK) (ρ : Nu) (H : Hp) {α : Type} (x : Out α) (P : α → Mem → Nu → Hp → Prop) : Prop :=
  match x with
  | .ok a M => ∀ ρ' H', Ext ρ H ρ' H' → Rep K ρ' M H' → P a M ρ' H'
  | .exc n fs M => ∀ ρ' H', Ext ρ H ρ' H' → Rep K ρ' M H' → ExcM K mg E n fs ρ' H'
  | .bad => False
section
variable {K : PySem.W.Frag} {mg : Str → Option Value} {E : XK} {ρ ρ' : Nu} {H H' : Hp} {α β : Type}
theorem Post.from {x : Out α} {P : α → Mem → Nu → Hp → Prop} (h : Post K mg E ρ H x P) (x1 : Ext ρ H ρ' H') : Post K mg E ρ' H' x P := by
  cases x with
  | ok a M => exact fun ρ2 H2 x2 R => h ρ2 H2 (x1.trans x2) R
  | exc n fs M => exact fun ρ2 H2 x2 R => h ρ2 H2 (x1.trans x2) R
  | bad => exact h
theorem Post.imp {x : Out α} {P P' : α → Mem → Nu → Hp → Prop} (h : Post K mg E ρ H x P) (hi : ∀ a M ρ' H', Ext ρ H ρ' H' → Rep K ρ' M H' → P a M ρ' H' → P' a M ρ' H') : Post K mg E ρ H x P' := by
  cases x with
  | ok a M => exact fun ρ2 H2 x2 R => hi a M ρ2 H2 x2 R (h ρ2 H2 x2 R)
  | exc n fs M => exact h
  | bad => exact h
theorem Post.bind {x : Out α} {f : α → Mem → Out β} {P : β → Mem → Nu → Hp → Prop} (h : Post K mg E ρ H (x.bind f) P) : Post K mg E ρ H x fun a M ρ' H' => Post K mg E ρ' H' (f a M) P := by
  cases x with
  | ok a M => exact fun ρ2 H2 x2 R => Post.from h x2
  | exc n fs M => exact h
  | bad => exact h
end

/-! ### the slots -/
structure EnvD (K : PySem.W.Frag) (ρ : Nu) (H : Hp) (σd : SD) (σ : L2.St) : Prop where
  len : σd.length = σ.length
  get : ∀ (i : Nat) (d : D), σd[i]? = some (some d) → ∃ v, σ[i]? = some (some v) ∧ Den K ρ H d v
section
variable {K : PySem.W.Frag} {ρ ρ' : Nu} {H H' : Hp} {σd : SD} {σ : L2.St}
theorem EnvD.ext {M : Mem} (h : EnvD K ρ H σd σ) (R : Rep K ρ M H) (x : Ext ρ H ρ' H') : EnvD K ρ' H' σd σ :=
  ⟨h.len, fun i d e => let ⟨v, e1, r⟩ := h.get i d e; ⟨v, e1, r.ext R x⟩⟩
theorem EnvD.set (h : EnvD K ρ H σd σ) (i : Nat) {d : D} {v : V} (r : Den K ρ H d v) : EnvD K ρ H (σd.set i (some d)) (σ.set i (some v)) := by
  refine ⟨by simp [h.len], fun j e he => ?_⟩
  rw [List.getElem?_set] at he
  split at he
  · rename_i hi
    subst hi
    split at he
    · rename_i hl
      cases he
      exact ⟨v, List.getElem?_set_self (by rw [← h.len]; exact hl), r⟩
    · cases he
  · rename_i hi
    rw [List.getElem?_set_ne hi]
    exact h.get j e he
theorem EnvD.setNone (h : EnvD K ρ H σd σ) (i : Nat) : EnvD K ρ H (σd.set i none) (σ.set i none) := by
  refine ⟨by simp [h.len], fun j e he => ?_⟩
  rw [List.getElem?_set] at he
  split at he
  · split at he <;> cases he
  · rename_i hi
    rw [List.getElem?_set_ne hi]
    exact h.get j e he
def wipeD (σ : SD) : List Nat → SD
  | [] => σ
  | v :: vs => (wipeD σ vs).set v none
theorem EnvD.wipe (h : EnvD K ρ H σd σ) : ∀ vs : List Nat, EnvD K ρ H (wipeD σd vs) (L2.wipe σ vs)
  | [] => h
  | v :: vs => (EnvD.wipe h vs).setNone v
end

/-! ### the judgements -/
def tE (K : PySem.W.Frag) (mg : Str → Option Value) (E : XK) (f : SF) : TE := fun σ H Q => ∃ ρ M σd, Rep K ρ M H ∧ EnvD K ρ H σd σ ∧
  Post K mg E ρ H (f σd M) fun d _ ρ' H' => ∀ v, Den K ρ' H' d v → Q v H'
def tT (K : PySem.W.Frag) (mg : Str → Option Value) (E : XK) (f : SB) : TT := fun σ H Q => ∃ ρ M σd, Rep K ρ M H ∧ EnvD K ρ H σd σ ∧
  Post K mg E ρ H (f σd M) fun b _ _ H' => Q b H'
def tA (K : PySem.W.Frag) (mg : Str → Option Value) (E : XK) (f : SFs) : TA := fun σ H Q => ∃ ρ M σd, Rep K ρ M H ∧ EnvD K ρ H σd σ ∧
  Post K mg E ρ H (f σd M) fun ds _ ρ' H' => ∀ vs, Dens K ρ' H' ds vs → Q vs H'
inductive Fl where
  | nx (σ : SD) | rt (d : D) | bk (σ : SD) | ct (σ : SD)
abbrev SS := SD → Mem → Out Fl
def FlOk (K : PySem.W.Frag) (D : Ends) (fl : Fl) (ρ : Nu) (H : Hp) : Prop :=
  match fl with
  | .nx σd => ∀ σ, EnvD K ρ H σd σ → D.nx σ H
  | .rt d => ∀ v, Den K ρ H d v → D.rt v H
  | .bk σd => ∀ σ, EnvD K ρ H σd σ → D.bk σ H
  | .ct σd => ∀ σ, EnvD K ρ H σd σ → D.ct σ H
def tS (K : PySem.W.Frag) (mg : Str → Option Value) (E : XK) (f : SS) : TS := fun D σ H => ∃ ρ M σd, Rep K ρ M H ∧ EnvD K ρ H σd σ ∧
  Post K mg E ρ H (f σd M) fun fl _ ρ' H' => FlOk K D fl ρ' H'

abbrev JE (X : Cx) (E : XK) (e : Expr) (f : SF) : Prop := PE X e (tE X.K X.mg E f)
abbrev JT (X : Cx) (E : XK) (e : Expr) (f : SB) : Prop := PT X e (tT X.K X.mg E f)
abbrev JA (X : Cx) (E : XK) (es : List Expr) (f : SFs) : Prop := PA X es (tA X.K X.mg E f)
abbrev JS (X : Cx) (E : XK) (st : Stmt) (f : SS) : Prop := PS X st (tS X.K X.mg E f)
abbrev JSs (X : Cx) (E : XK) (st : List Stmt) (f : SS) : Prop := PSs X st (tS X.K X.mg E f)

theorem PE.weak {X : Cx} {e : Expr} {t t' : TE} (h : PE X e t) (w : ∀ σ H Q, t' σ H Q → t σ H Q) : PE X e t' := ⟨fun pins s σ H Q I q => h.run pins s σ H Q I (w σ H Q q)⟩
theorem PT.weak {X : Cx} {e : Expr} {t t' : TT} (h : PT X e t) (w : ∀ σ H Q, t' σ H Q → t σ H Q) : PT X e t' := ⟨fun pins s σ H Q I q => h.run pins s σ H Q I (w σ H Q q)⟩
theorem PA.weak {X : Cx} {e : List Expr} {t t' : TA} (h : PA X e t) (w : ∀ σ H Q, t' σ H Q → t σ H Q) : PA X e t' := ⟨fun pos pins s σ H Q I q => h.run pos pins s σ H Q I (w σ H Q q)⟩
theorem PS.weak {X : Cx} {e : Stmt} {t t' : TS} (h : PS X e t) (w : ∀ D σ H, t' D σ H → t D σ H) : PS X e t' := ⟨fun pins s σ H D I q => h.run pins s σ H D I (w D σ H q)⟩
theorem PSs.weak {X : Cx} {e : List Stmt} {t t' : TS} (h : PSs X e t) (w : ∀ D σ H, t' D σ H → t D σ H) : PSs X e t' := ⟨fun pins s σ H D I q => h.run pins s σ H D I (w D σ H q)⟩
end KP

/-! expressions -/
namespace KP
open PySem PySem.Spec PyProof.Rows L2

section
variable {K : PySem.W.Frag} {mg : Str → Option Value} {E : XK} {ρ ρ' : Nu} {H H' : Hp} {α β : Type}
theorem Post.here {a : α} {M : Mem} {P : α → Mem → Nu → Hp → Prop} (h : Post K mg E ρ H (.ok a M) P) (R : Rep K ρ M H) : P a M ρ H := h ρ H .refl R
theorem Post.mk {a : α} {M : Mem} {P : α → Mem → Nu → Hp → Prop} (h : ∀ ρ' H', Ext ρ H ρ' H' → Rep K ρ' M H' → P a M ρ' H') : Post K mg E ρ H (.ok a M) P := h
end

section
variable {X : Cx} {E : XK}
/-! ### names, constants -/
def fVar (i : Nat) : SF := fun σ M => match σ[i]? with
  | some (some d) => .ok d M
  | _ => .bad
theorem je_name {i : Nat} {x : Str} {pos : Pos} (h : PE X (.Name x pos) (tVar i)) : JE X E (.Name x pos) (fVar i) := by
  refine PE.weak h fun σ H Q ⟨ρ, M, σd, R, en, hp⟩ => ?_
  unfold fVar at hp
  split at hp
  · rename_i d e
    obtain ⟨v, e1, r⟩ := en.get i d e
    exact ⟨v, e1, hp.here R v r⟩
  · exact hp.elim
theorem je_var (i : Nat) {x : Str} {pos : Pos} (hN : X.N[i]? = some x) (hv : Vis X.env.scope x) (hd : (x == ("__debug__" : Str)) = false := by decide)
    (hcd : (x == ("__classdict__" : Str)) = false := by decide) : JE X E (.Name x pos) (fVar i) := je_name (pe_var hN hv hd hcd)
def fC (d : D) : SF := fun _ M => .ok d M
theorem je_c {e : Expr} {d : D} {v : V} (h : PE X e (tC v)) (hd : ∀ ρ H, Den X.K ρ H d v) : JE X E e (fC d) :=
  PE.weak h fun σ H Q ⟨ρ, M, σd, R, en, hp⟩ => hp.here R v (hd ρ H)
theorem je_int {i : Int} {j pos} : JE X E (.Constant (.int i) j pos) (fC (.int i)) := je_c pe_int fun _ _ => .int i
theorem je_bl {b : Bool} {j pos} : JE X E (.Constant (.bool b) j pos) (fC (.bl b)) := je_c pe_bl fun _ _ => .bl b
theorem je_non {j pos} : JE X E (.Constant .none j pos) (fC .non) := je_c pe_non fun _ _ => .non
theorem je_str {x : Str} {z : List Nat} {j pos} (h : x = ⟨z.toArray⟩) : JE X E (.Constant (.str x) j pos) (fC (.str z)) := by
  subst h
  exact je_c pe_str fun _ _ => .str z
theorem je_glob {x : Str} {d : D} {v : V} {u : Value} {pos : Pos} (hg : Gl X x) (hm : X.mg x = some u) (r : RelV v u) (hd : ∀ ρ H, Den X.K ρ H d v) (hx : (x == ("__debug__" : Str)) = false := by decide) : JE X E (.Name x pos) (fC d) :=
  je_c (pe_glob hg hm r hx) hd

/-! ### operators by values -/
def rD (K : PySem.W.Frag) (mg : Str → Option Value) (E : XK) (g : D → D → Mem → Out D) : R2 := fun x y H Q => ∃ ρ M dx dy, Rep K ρ M H ∧ Den K ρ H dx x ∧ Den K ρ H dy y ∧
  Post K mg E ρ H (g dx dy M) fun d _ ρ' H' => ∀ v, Den K ρ' H' d v → Q v H'
def fBin (g : D → D → Mem → Out D) (fa fb : SF) : SF := fun σ M => (fa σ M).bind fun x M1 => (fb σ M1).bind fun y M2 => g x y M2
theorem tOp_of {g : D → D → Mem → Out D} {fa fb : SF} {σ : L2.St} {H : Hp} {Q : VK} (h : tE X.K X.mg E (fBin g fa fb) σ H Q) : tOp (rD X.K X.mg E g) (tE X.K X.mg E fa) (tE X.K X.mg E fb) σ H Q := by
  obtain ⟨ρ, M, σd, R, en, hp⟩ := h
  refine ⟨ρ, M, σd, R, en, hp.bind.imp fun x M1 ρ1 H1 x1 R1 hp1 v rv => ?_⟩
  refine ⟨ρ1, M1, σd, R1, en.ext R x1, hp1.bind.imp fun y M2 ρ2 H2 x2 R2 hp2 w rw' => ?_⟩
  exact ⟨ρ2, M2, x, y, R2, rv.ext R1 x2, rw', hp2⟩
theorem je_bin {op : Operator} {a b : Expr} {g : D → D → Mem → Out D} {fa fb : SF} {pos : Pos} (ho : OpR X (binaryOp op) (rD X.K X.mg E g)) (ha : JE X E a fa) (hb : JE X E b fb) : JE X E (.BinOp a op b pos) (fBin g fa fb) :=
  PE.weak (pe_op ho ha hb) fun σ H Q h => tOp_of h
theorem je_cmp {op : CmpOp} {a b : Expr} {g : D → D → Mem → Out D} {fa fb : SF} {pos : Pos} (ho : OpR X (compareOp op) (rD X.K X.mg E g)) (ha : JE X E a fa) (hb : JE X E b fb) (hm : behindInMarks op b = false) : JE X E (.Compare a [op] [b] pos) (fBin g fa fb) :=
  PE.weak (pe_cmpR ho ha hb hm) fun σ H Q h => tOp_of h
/-- a value that is a truth value, as a test -/
def asB (f : SF) : SB := fun σ M => (f σ M).bind fun x M1 => match x with
  | .bl b => .ok b M1
  | _ => .bad
theorem asB_post {f : SF} {σd : SD} {M : Mem} {ρ : Nu} {H : Hp} {Q : Bool → Hp → Prop} (hp : Post X.K X.mg E ρ H (asB f σd M) fun b _ _ H' => Q b H') :
    Post X.K X.mg E ρ H (f σd M) fun d _ ρ' H' => ∀ v, Den X.K ρ' H' d v → ∃ k, v = .bl k ∧ Q k H' := by
  refine hp.bind.imp fun x M1 ρ1 H1 x1 R1 hp1 v rv => ?_
  cases rv with
  | bl b => exact ⟨b, rfl, hp1.here R1⟩
  | _ => exact hp1.elim
theorem jt_cmp {op : CmpOp} {a b : Expr} {g : D → D → Mem → Out D} {fa fb : SF} {pos : Pos} (ho : OpR X (compareOp op) (rD X.K X.mg E g)) (ha : JE X E a fa) (hb : JE X E b fb) (hm : behindInMarks op b = false) :
    JT X E (.Compare a [op] [b] pos) (asB (fBin g fa fb)) := by
  refine PT.weak (pt_cmpR ho ha hb hm) fun σ H Q ⟨ρ, M, σd, R, en, hp⟩ => ?_
  exact tOp_of (E := E) ⟨ρ, M, σd, R, en, asB_post hp⟩
/-- a < b < c -/
def fChain (g g' : D → D → Mem → Out D) (fa fb fc : SF) : SF := fun σ M => (fa σ M).bind fun x M1 => (fb σ M1).bind fun y M2 => (g x y M2).bind fun z M3 => match z with
  | .bl true => (fc σ M3).bind fun w M4 => g' y w M4
  | .bl false => .ok (.bl false) M3
  | _ => .bad
theorem tChain_of {g g' : D → D → Mem → Out D} {fa fb fc : SF} {σ : L2.St} {H : Hp} {Q : VK} (h : tE X.K X.mg E (fChain g g' fa fb fc) σ H Q) :
    tChain (rD X.K X.mg E g) (rD X.K X.mg E g') (tE X.K X.mg E fa) (tE X.K X.mg E fb) (tE X.K X.mg E fc) σ H Q := by
  obtain ⟨ρ, M, σd, R, en, hp⟩ := h
  refine ⟨ρ, M, σd, R, en, hp.bind.imp fun x M1 ρ1 H1 x1 R1 hp1 v rv => ?_⟩
  refine ⟨ρ1, M1, σd, R1, en.ext R x1, hp1.bind.imp fun y M2 ρ2 H2 x2 R2 hp2 w rw' => ?_⟩
  have en2 := (en.ext R x1).ext R1 x2
  refine ⟨ρ2, M2, x, y, R2, rv.ext R1 x2, rw', hp2.bind.imp fun z M3 ρ3 H3 x3 R3 hp3 u ru => ?_⟩
  cases ru with
  | bl b =>
    refine ⟨b, rfl, ?_⟩
    cases b with
    | false => exact hp3.here R3 _ (.bl false)
    | true =>
      refine ⟨ρ3, M3, σd, R3, en2.ext R2 x3, hp3.bind.imp fun c M4 ρ4 H4 x4 R4 hp4 t rt => ?_⟩
      exact ⟨ρ4, M4, y, c, R4, (rw'.ext R2 x3).ext R3 x4, rt, hp4⟩
  | _ => exact hp3.elim
theorem je_chain {op op' : CmpOp} {a b c : Expr} {g g' : D → D → Mem → Out D} {fa fb fc : SF} {pos : Pos} (ho : OpR X (compareOp op) (rD X.K X.mg E g)) (ho' : OpR X (compareOp op') (rD X.K X.mg E g')) (ha : JE X E a fa) (hb : JE X E b fb) (hc : JE X E c fc) (hm : lastMarks [op, op'] [b, c] = false := by rfl) :
    JE X E (.Compare a [op, op'] [b, c] pos) (fChain g g' fa fb fc) :=
  PE.weak (pe_chain ho ho' ha hb hc hm) fun σ H Q h => tChain_of h
theorem jt_chain {op op' : CmpOp} {a b c : Expr} {g g' : D → D → Mem → Out D} {fa fb fc : SF} {pos : Pos} (ho : OpR X (compareOp op) (rD X.K X.mg E g)) (ho' : OpR X (compareOp op') (rD X.K X.mg E g')) (ha : JE X E a fa) (hb : JE X E b fb) (hc : JE X E c fc) (hm : lastMarks [op, op'] [b, c] = false := by rfl) :
    JT X E (.Compare a [op, op'] [b, c] pos) (asB (fChain g g' fa fb fc)) :=
  PT.weak (pt_chain ho ho' ha hb hc hm) fun σ H Q ⟨ρ, M, σd, R, en, hp⟩ => tChain_of (E := E) ⟨ρ, M, σd, R, en, asB_post hp⟩

/-! ### truth -/
def truO (d : D) (M : Mem) : Option Bool := match d with
  | .non => some false
  | .bl b => some b
  | .int i => some (i != 0)
  | .str z => if z.length ≤ 16777216 then some (!z.isEmpty) else none
  | .tup xs => some (!xs.isEmpty)
  | .lst xs => some (!xs.isEmpty)
  | .fl xs => some (!xs.isEmpty)
  | .ref n => match M[n]? with
    | some (.lst xs) => some (!xs.isEmpty)
    | _ => none
  | _ => none
theorem Dens.isEmpty {K : PySem.W.Frag} {ρ : Nu} {H : Hp} {ds : List D} {vs : List V} (h : Dens K ρ H ds vs) : vs.isEmpty = ds.isEmpty := by cases h <;> rfl
theorem truO_ok {K : PySem.W.Frag} {d : D} {v : V} {M : Mem} {ρ : Nu} {H : Hp} {k : Bool} (R : Rep K ρ M H) (r : Den K ρ H d v) (h : truO d M = some k) : TruV K v H k := by
  cases r with
  | non => cases h; rfl
  | bl b => cases h; rfl
  | int i => cases h; rfl
  | str z =>
    unfold truO at h
    dsimp only at h
    split at h
    · rename_i hz
      cases h
      refine ⟨by show z.toArray.size ≤ sizeLine; simpa [sizeLine] using hz, ?_⟩
      show (!z.isEmpty) = ((z.toArray.size : Int) != 0)
      cases z with
      | nil => rfl
      | cons a t =>
        have h2 : (((a :: t).toArray.size : Int) != 0) = true := by
          rw [bne_iff_ne]
          simp
          omega
        rw [h2]
        rfl
    · cases h
  | tup hs ht => cases h; exact .inr (.inl ⟨_, hs.sq, by rw [ht.isEmpty]⟩)
  | lst h1 h2 hs ht => cases h; exact .inl ⟨_, .of hs, by rw [ht.isEmpty]⟩
  | fl hs ht => cases h; exact .inl ⟨_, hs.sq, by rw [ht.isEmpty]⟩
  | ref hr =>
    unfold truO at h
    dsimp only at h
    split at h
    · rename_i xs e
      cases h
      obtain ⟨vs, e1, t⟩ := R.obj _ _ _ hr e
      exact .inl ⟨_, .of e1, by rw [t.isEmpty]⟩
    · cases h
  | ty n => cases h
/-- goes on with what an option holds -/
def optO {α β : Type} (o : Option α) (f : α → Out β) : Out β := match o with
  | some a => f a
  | none => .bad
theorem optO_post {K : PySem.W.Frag} {mg : Str → Option Value} {ρ : Nu} {H : Hp} {α β : Type} {o : Option α} {f : α → Out β} {P : β → Mem → Nu → Hp → Prop} (h : Post K mg E ρ H (optO o f) P) : ∃ a, o = some a ∧ Post K mg E ρ H (f a) P := by
  cases o with
  | none => exact h.elim
  | some a => exact ⟨a, rfl, h⟩
def fTru (f : SF) : SB := fun σ M => (f σ M).bind fun x M1 => optO (truO x M1) fun b => .ok b M1
theorem jt_tru {a : Expr} {f : SF} (ha : JE X E a f) (he : ∀ whole, isTrue a X.env whole = (do let v ← whole; standAt a.pos; holding [v] (truthy v)) := by intro _; rfl) : JT X E a (fTru f) := by
  refine PT.weak (pt_truth ha he) fun σ H Q ⟨ρ, M, σd, R, en, hp⟩ => ⟨ρ, M, σd, R, en, hp.bind.imp fun x M1 ρ1 H1 x1 R1 hp1 v rv => ?_⟩
  obtain ⟨k, e, hp1⟩ := optO_post hp1
  exact ⟨k, truO_ok R1 rv e, hp1.here R1⟩
def bAnd (f g : SB) : SB := fun σ M => (f σ M).bind fun b M1 => match b with
  | true => g σ M1
  | false => .ok false M1
def bOr (f g : SB) : SB := fun σ M => (f σ M).bind fun b M1 => match b with
  | true => .ok true M1
  | false => g σ M1
def bNot (f : SB) : SB := fun σ M => (f σ M).bind fun b M1 => .ok (!b) M1
abbrev JW (X : Cx) (E : XK) (e : Expr) (f : SB) : Prop := PW X e (tT X.K X.mg E f)
theorem PW.weak {X : Cx} {e : Expr} {t t' : TT} (h : PW X e t) (w : ∀ σ H Q, t' σ H Q → t σ H Q) : PW X e t' := ⟨fun wh pins s σ H Q I q => h.run wh pins s σ H Q I (w σ H Q q)⟩
theorem jw_and1 {a : Expr} {f : SB} {pos : Pos} (h : JT X E a f) : JW X E (.BoolOp .And [a] pos) f := pw_and1 h
theorem jw_or1 {a : Expr} {f : SB} {pos : Pos} (h : JT X E a f) : JW X E (.BoolOp .Or [a] pos) f := pw_or1 h
theorem jw_and {a b : Expr} {rest : List Expr} {f g : SB} {pos : Pos} (h : JT X E a f) (h2 : JW X E (.BoolOp .And (b :: rest) pos) g) : JW X E (.BoolOp .And (a :: b :: rest) pos) (bAnd f g) := by
  refine PW.weak (pw_and h h2) fun σ H Q ⟨ρ, M, σd, R, en, hp⟩ => ⟨ρ, M, σd, R, en, hp.bind.imp fun x M1 ρ1 H1 x1 R1 hp1 => ?_⟩
  cases x with
  | true => exact ⟨ρ1, M1, σd, R1, en.ext R x1, hp1⟩
  | false => exact hp1.here R1
theorem jw_or {a b : Expr} {rest : List Expr} {f g : SB} {pos : Pos} (h : JT X E a f) (h2 : JW X E (.BoolOp .Or (b :: rest) pos) g) : JW X E (.BoolOp .Or (a :: b :: rest) pos) (bOr f g) := by
  refine PW.weak (pw_or h h2) fun σ H Q ⟨ρ, M, σd, R, en, hp⟩ => ⟨ρ, M, σd, R, en, hp.bind.imp fun x M1 ρ1 H1 x1 R1 hp1 => ?_⟩
  cases x with
  | true => exact hp1.here R1
  | false => exact ⟨ρ1, M1, σd, R1, en.ext R x1, hp1⟩
theorem jw_pt {e : Expr} {f : SB} (h : JW X E e f) : JT X E e f := L2.PW.pt h
theorem jt_not {a : Expr} {f : SB} {pos : Pos} (h : JT X E a f) : JT X E (.UnaryOp .Not a pos) (bNot f) := by
  refine PT.weak (pt_not h) fun σ H Q ⟨ρ, M, σd, R, en, hp⟩ => ⟨ρ, M, σd, R, en, hp.bind.imp fun x M1 ρ1 H1 x1 R1 hp1 => ?_⟩
  exact hp1.here R1
/-- and, or, not as values -/
def fAnd (f g : SF) : SF := fun σ M => (f σ M).bind fun x M1 => optO (truO x M1) fun b => match b with
  | true => g σ M1
  | false => .ok x M1
def fOr (f g : SF) : SF := fun σ M => (f σ M).bind fun x M1 => optO (truO x M1) fun b => match b with
  | true => .ok x M1
  | false => g σ M1
def fNot (f : SF) : SF := fun σ M => (f σ M).bind fun x M1 => optO (truO x M1) fun b => .ok (.bl (!b)) M1
theorem je_one {op} {a : Expr} {f : SF} {pos : Pos} (h : JE X E a f) : JE X E (.BoolOp op [a] pos) f := pe_one h
theorem je_and {a b : Expr} {rest : List Expr} {f g : SF} {pos : Pos} (h : JE X E a f) (h2 : JE X E (.BoolOp .And (b :: rest) pos) g) : JE X E (.BoolOp .And (a :: b :: rest) pos) (fAnd f g) := by
  refine PE.weak (pe_andT h h2) fun σ H Q ⟨ρ, M, σd, R, en, hp⟩ => ⟨ρ, M, σd, R, en, hp.bind.imp fun x M1 ρ1 H1 x1 R1 hp1 v rv => ?_⟩
  obtain ⟨k, e, hp1⟩ := optO_post hp1
  refine ⟨k, truO_ok R1 rv e, ?_⟩
  cases k with
  | true => exact ⟨ρ1, M1, σd, R1, en.ext R x1, hp1⟩
  | false => exact hp1.here R1 v rv
theorem je_or {a b : Expr} {rest : List Expr} {f g : SF} {pos : Pos} (h : JE X E a f) (h2 : JE X E (.BoolOp .Or (b :: rest) pos) g) : JE X E (.BoolOp .Or (a :: b :: rest) pos) (fOr f g) := by
  refine PE.weak (pe_orT h h2) fun σ H Q ⟨ρ, M, σd, R, en, hp⟩ => ⟨ρ, M, σd, R, en, hp.bind.imp fun x M1 ρ1 H1 x1 R1 hp1 v rv => ?_⟩
  obtain ⟨k, e, hp1⟩ := optO_post hp1
  refine ⟨k, truO_ok R1 rv e, ?_⟩
  cases k with
  | true => exact hp1.here R1 v rv
  | false => exact ⟨ρ1, M1, σd, R1, en.ext R x1, hp1⟩
theorem je_not {a : Expr} {f : SF} {pos : Pos} (h : JE X E a f) : JE X E (.UnaryOp .Not a pos) (fNot f) := by
  refine PE.weak (pe_notT h) fun σ H Q ⟨ρ, M, σd, R, en, hp⟩ => ⟨ρ, M, σd, R, en, hp.bind.imp fun x M1 ρ1 H1 x1 R1 hp1 v rv => ?_⟩
  obtain ⟨k, e, hp1⟩ := optO_post hp1
  exact ⟨k, truO_ok R1 rv e, hp1.here R1 _ (.bl _)⟩
def fIf (c : SB) (f g : SF) : SF := fun σ M => (c σ M).bind fun b M1 => match b with
  | true => f σ M1
  | false => g σ M1
theorem je_if {c a b : Expr} {fc : SB} {f g : SF} {pos : Pos} (hc : JT X E c fc) (ha : JE X E a f) (hb : JE X E b g) : JE X E (.IfExp c a b pos) (fIf fc f g) := by
  refine PE.weak (pe_ifExp hc ha hb) fun σ H Q ⟨ρ, M, σd, R, en, hp⟩ => ⟨ρ, M, σd, R, en, hp.bind.imp fun x M1 ρ1 H1 x1 R1 hp1 => ?_⟩
  cases x with
  | true => exact ⟨ρ1, M1, σd, R1, en.ext R x1, hp1⟩
  | false => exact ⟨ρ1, M1, σd, R1, en.ext R x1, hp1⟩

/-! ### argument lists, displays -/
def fsNil : SFs := fun _ M => .ok [] M
def fsCons (f : SF) (g : SFs) : SFs := fun σ M => (f σ M).bind fun x M1 => (g σ M1).bind fun xs M2 => .ok (x :: xs) M2
theorem ja_nil : JA X E [] fsNil := PA.weak pa_nil fun σ H Q ⟨ρ, M, σd, R, en, hp⟩ => hp.here R [] .nil
theorem ja_cons {e : Expr} {es : List Expr} {f : SF} {g : SFs} (h : JE X E e f) (h2 : JA X E es g) (hs : starEach (e :: es) X.env = (false, eval e X.env) :: starEach es X.env := by rfl) : JA X E (e :: es) (fsCons f g) := by
  refine PA.weak (pa_cons h h2 hs) fun σ H Q ⟨ρ, M, σd, R, en, hp⟩ => ⟨ρ, M, σd, R, en, hp.bind.imp fun x M1 ρ1 H1 x1 R1 hp1 v rv => ?_⟩
  refine ⟨ρ1, M1, σd, R1, en.ext R x1, hp1.bind.imp fun xs M2 ρ2 H2 x2 R2 hp2 vs rvs => ?_⟩
  exact hp2.here R2 (v :: vs) (.cons (rv.ext R1 x2) rvs)
def fTup (g : SFs) : SF := fun σ M => (g σ M).bind fun xs M1 => if xs.length ≤ 16777216 then .ok (.tup xs) M1 else .bad
theorem line_of {n : Nat} (h : n ≤ 16777216) : n ≤ sizeLine := h
/-- a tuple at a new address -/
theorem Post.tupNew {K : PySem.W.Frag} {mg : Str → Option Value} {ρ : Nu} {H : Hp} {M : Mem} {ds : List D} {vs : List V} {Q : VK} (R : Rep K ρ M H) (t : Dens K ρ H ds vs)
    (hp : Post K mg E ρ H (.ok (.tup ds) M) fun d _ ρ' H' => ∀ v, Den K ρ' H' d v → Q v H') : ∀ p, H p = none → Q (.ref p) (upd H p (.tup vs)) :=
  fun p np => hp ρ _ (.laid np) (R.laid np) (.ref p) (.tup (.inl upd_same) (t.ext R (.laid np)))
/-- a list at a new address, with a number -/
theorem Post.lstNew {K : PySem.W.Frag} {mg : Str → Option Value} {ρ : Nu} {H : Hp} {M : Mem} {ds : List D} {vs : List V} {Q : VK} (R : Rep K ρ M H) (t : Dens K ρ H ds vs)
    (hp : Post K mg E ρ H (.ok (.ref M.length) (M ++ [.lst ds])) fun d _ ρ' H' => ∀ v, Den K ρ' H' d v → Q v H') : ∀ p, H p = none → Q (.ref p) (upd H p (.lst vs)) :=
  fun p np => hp (ρ.push p) _ (.new np) (R.new np ⟨vs, upd_same, t.ext R (.new np)⟩) (.ref p) (.ref (by rw [← R.len]; simp [Nu.push]))
/-- a list at a new address, without a number -/
theorem Post.lstTmp {K : PySem.W.Frag} {mg : Str → Option Value} {ρ : Nu} {H : Hp} {M : Mem} {ds : List D} {vs : List V} {Q : VK} (R : Rep K ρ M H) (t : Dens K ρ H ds vs)
    (hp : Post K mg E ρ H (.ok (.lst ds) M) fun d _ ρ' H' => ∀ v, Den K ρ' H' d v → Q v H') : ∀ p, H p = none → Q (.ref p) (upd H p (.lst vs)) :=
  fun p np => hp ρ _ (.laid np) (R.laid np) (.ref p) (.lst (R.fresh np) (R.free np) upd_same (t.ext R (.laid np)))
theorem je_tup {es : List Expr} {g : SFs} {k pos} (h : JA X E es g) : JE X E (.Tuple es k pos) (fTup g) := by
  refine PE.weak (pe_tup h) fun σ H Q ⟨ρ, M, σd, R, en, hp⟩ => ⟨ρ, M, σd, R, en, hp.bind.imp fun x M1 ρ1 H1 x1 R1 hp1 vs rvs => ?_⟩
  split at hp1
  · rename_i hl
    exact ⟨by rw [← rvs.length]; exact line_of hl, hp1.tupNew R1 rvs⟩
  · exact hp1.elim
/-- a list that stays as it is -/
def fLst (g : SFs) : SF := fun σ M => (g σ M).bind fun xs M1 => if xs.length ≤ 16777216 then .ok (.lst xs) M1 else .bad
theorem je_lst {es : List Expr} {g : SFs} {pos} (h : JA X E es g) : JE X E (.List es pos) (fLst g) := by
  refine PE.weak (pe_lst h) fun σ H Q ⟨ρ, M, σd, R, en, hp⟩ => ⟨ρ, M, σd, R, en, hp.bind.imp fun x M1 ρ1 H1 x1 R1 hp1 vs rvs => ?_⟩
  split at hp1
  · rename_i hl
    exact ⟨by rw [← rvs.length]; exact line_of hl, hp1.lstTmp R1 rvs⟩
  · exact hp1.elim
/-- a list with a number -/
def fLstN (g : SFs) : SF := fun σ M => (g σ M).bind fun xs M1 => if xs.length ≤ 16777216 then .ok (.ref M1.length) (M1 ++ [.lst xs]) else .bad
theorem je_lstN {es : List Expr} {g : SFs} {pos} (h : JA X E es g) : JE X E (.List es pos) (fLstN g) := by
  refine PE.weak (pe_lst h) fun σ H Q ⟨ρ, M, σd, R, en, hp⟩ => ⟨ρ, M, σd, R, en, hp.bind.imp fun x M1 ρ1 H1 x1 R1 hp1 vs rvs => ?_⟩
  split at hp1
  · rename_i hl
    exact ⟨by rw [← rvs.length]; exact line_of hl, hp1.lstNew R1 rvs⟩
  · exact hp1.elim
end
end KP

/-! operators by values -/
namespace KP
open PySem PySem.Spec PyProof.Rows L2

/-- data, told for == -/
def mapO {α β : Type} (f : α → Option β) : List α → Option (List β)
  | [] => some []
  | x :: xs => match f x with
    | some y => match mapO f xs with
      | some ys => some (y :: ys)
      | none => none
    | none => none
def pdN (M : Mem) : Nat → D → Option PyData
  | 0, _ => none
  | n + 1, d => match d with
    | .non => some .none
    | .bl b => some (.bool b)
    | .int i => some (.int i)
    | .str x => some (.str ⟨x.toArray⟩)
    | .tup xs => match mapO (pdN M n) xs with
      | some ys => some (.tuple ys)
      | none => none
    | .lst xs => match mapO (pdN M n) xs with
      | some ys => some (.list ys)
      | none => none
    | .fl xs => match mapO (pdN M n) xs with
      | some ys => some (.list ys)
      | none => none
    | .ref k => match M[k]? with
      | some (.lst xs) => match mapO (pdN M n) xs with
        | some ys => some (.list ys)
        | none => none
      | _ => none
    | .ty _ => none
section
variable {K : PySem.W.Frag} {ρ : Nu} {M : Mem} {H : Hp}
theorem mapO_dp {f : D → Option PyData} (hf : ∀ d v p, Den K ρ H d v → f d = some p → Dp K H v p) : ∀ {ds : List D} {vs : List V} {ps : List PyData}, Dens K ρ H ds vs → mapO f ds = some ps → DpAll K H vs ps
  | _, _, _, .nil, h => by cases h; exact .nil
  | d :: ds, _, ps, .cons r t, h => by
    unfold mapO at h
    split at h
    · rename_i y e
      split at h
      · rename_i ys e2
        cases h
        exact .cons (hf _ _ _ r e) (mapO_dp hf t e2)
      · cases h
    · cases h
theorem pdN_dp (R : Rep K ρ M H) : ∀ (n : Nat) (d : D) (v : V) (p : PyData), Den K ρ H d v → pdN M n d = some p → Dp K H v p
  | 0, _, _, _, _, h => by cases h
  | n + 1, d, v, p, r, h => by
    have ih := pdN_dp R n
    unfold pdN at h
    cases r with
    | non => cases h; exact .non
    | bl b => cases h; exact .bl b
    | int i => cases h; exact .int i
    | str x => cases h; exact .str _
    | tup hs t =>
      dsimp only at h
      split at h
      · rename_i ys e; cases h; exact .tup hs.sq (mapO_dp ih t e)
      · cases h
    | lst h1 h2 hs t =>
      dsimp only at h
      split at h
      · rename_i ys e; cases h; exact .lst (.of hs) (mapO_dp ih t e)
      · cases h
    | fl hs t =>
      dsimp only at h
      split at h
      · rename_i ys e; cases h; exact .lst hs.sq (mapO_dp ih t e)
      · cases h
    | ref hr =>
      dsimp only at h
      split at h
      · rename_i xs e
        obtain ⟨vs, e1, t⟩ := R.obj _ _ _ hr e
        split at h
        · rename_i ys e2; cases h; exact .lst (.of e1) (mapO_dp ih t e2)
        · cases h
      · cases h
    | ty s => cases h
end
/-- the one way: pure, of the two values and the memory -/
def pure2 (f : D → D → Mem → Option D) : D → D → Mem → Out D := fun x y M => optO (f x y M) fun d => .ok d M

def eqO (x y : D) (M : Mem) : Option Bool := match pdN M 60 x with
  | some p => match pdN M 60 y with
    | some q => if (SeqAt.shaped p && SeqAt.shaped q) = true then some (PyData.eqv p q) else none
    | none => none
  | none => none
def inO (x c : D) (M : Mem) : Option Bool := match x, c with
  | .str [a], .str z => some (decide (a ∈ z))
  | x, c => match pdN M 60 x with
    | some p => match pdN M 60 c with
      | some (.list qs) => if (SeqAt.shaped p && SeqAt.shaped (.list qs)) = true then some (qs.any fun z => PyData.eqv z p) else none
      | some (.tuple qs) => if (SeqAt.shaped p && SeqAt.shaped (.tuple qs)) = true then some (qs.any fun z => PyData.eqv z p) else none
      | _ => none
    | none => none
def mulOk (i j : Int) : Bool := (decide (-(2 ^ 64) < i) && decide (i < 2 ^ 64)) || (decide (-(2 ^ 64) < j) && decide (j < 2 ^ 64)) || decide (i.natAbs.log2 + j.natAbs.log2 < 1000000)

/-- a list that may be joined, stretched: its items -/
def lstO (x : D) (M : Mem) : Option (List D) := match x with
  | .lst xs => some xs
  | .ref n => match M[n]? with
    | some (.lst xs) => some xs
    | _ => none
  | _ => none
theorem lstO_some {K : PySem.W.Frag} {ρ : Nu} {M : Mem} {H : Hp} {x : D} {v : V} {xs : List D} (R : Rep K ρ M H) (r : Den K ρ H x v) (h : lstO x M = some xs) : ∃ a vs, v = .ref a ∧ H a = some (.lst vs) ∧ Dens K ρ H xs vs := by
  cases r with
  | lst h1 h2 hs t => cases h; exact ⟨_, _, rfl, hs, t⟩
  | ref hr =>
    unfold lstO at h
    dsimp only at h
    split at h
    · rename_i xs e
      cases h
      obtain ⟨vs, e1, t⟩ := R.obj _ _ _ hr e
      exact ⟨_, _, rfl, e1, t⟩
    · cases h
  | _ => cases h
def dAdd : D → D → Mem → Out D := fun x y M => match x, y with
  | .int i, .int j => .ok (.int (i + j)) M
  | .str a, .str b => if a.length + b.length ≤ 16777216 then .ok (.str (a ++ b)) M else .bad
  | .tup a, .tup b => if a.length + b.length ≤ 16777216 then .ok (.tup (a ++ b)) M else .bad
  | x, y => optO (lstO x M) fun a => optO (lstO y M) fun b => if a.length + b.length ≤ 16777216 then .ok (.lst (a ++ b)) M else .bad
/-- the same, the new list with a number -/
def dAddN : D → D → Mem → Out D := fun x y M => optO (lstO x M) fun a => optO (lstO y M) fun b => if a.length + b.length ≤ 16777216 then .ok (.ref M.length) (M ++ [.lst (a ++ b)]) else .bad
def dSub : D → D → Mem → Out D := fun x y M => match x, y with
  | .int i, .int j => .ok (.int (i - j)) M
  | _, _ => .bad
def dMul : D → D → Mem → Out D := fun x y M => match x, y with
  | .int i, .int j => if mulOk i j = true then .ok (.int (i * j)) M else .bad
  | .tup a, .int k => if 2 ≤ k ∧ k ≤ 1000 ∧ a.length ≤ 1000 ∧ a ≠ [] then .ok (.tup (List.replicate k.toNat a).flatten) M else .bad
  | x, .int k => optO (lstO x M) fun a => if -(2 ^ 63) ≤ k ∧ k < 2 ^ 63 ∧ a.length * k.toNat ≤ 16777216 then .ok (.lst (List.replicate k.toNat a).flatten) M else .bad
  | _, _ => .bad
def dMulN : D → D → Mem → Out D := fun x y M => match y with
  | .int k => optO (lstO x M) fun a => if -(2 ^ 63) ≤ k ∧ k < 2 ^ 63 ∧ a.length * k.toNat ≤ 16777216 then .ok (.ref M.length) (M ++ [.lst (List.replicate k.toNat a).flatten]) else .bad
  | _ => .bad
def dDiv : D → D → Mem → Out D := fun x y M => match x, y with
  | .int i, .int j => if 0 < j ∧ j.natAbs.log2 < 9000 then .ok (.int (i / j)) M else .bad
  | _, _ => .bad
def dMod : D → D → Mem → Out D := fun x y M => match x, y with
  | .int i, .int j => if 0 < j then .ok (.int (i % j)) M else .bad
  | _, _ => .bad
def dPow : D → D → Mem → Out D := fun x y M => match x, y with
  | .int i, .int j => if 0 ≤ j ∧ j ≤ 1000000 ∧ i.natAbs < 2 ^ 64 then .ok (.int (i ^ j.toNat)) M else .bad
  | _, _ => .bad
def dShr : D → D → Mem → Out D := fun x y M => match x, y with
  | .int i, .int j => if 0 ≤ j then .ok (.int (i / 2 ^ j.toNat)) M else .bad
  | _, _ => .bad
def dShl : D → D → Mem → Out D := fun x y M => match x, y with
  | .int i, .int j => if 0 ≤ j ∧ j ≤ 1000000 ∧ i.natAbs < 2 ^ 64 then .ok (.int (i * 2 ^ j.toNat)) M else .bad
  | _, _ => .bad
def dBitAnd : D → D → Mem → Out D := fun x y M => match x, y with
  | .int i, .int j => .ok (.int (Builtin.bitAnd i j)) M
  | _, _ => .bad
def intsO : List D → Option (List Int)
  | [] => some []
  | .int i :: r => match intsO r with
    | some is => some (i :: is)
    | none => none
  | _ :: _ => none
/-- the order of ints, texts, tuples of ints -/
def ltO (x y : D) : Option Bool := match x, y with
  | .int i, .int j => some (decide (i < j))
  | .str a, .str b => some (decide (a < b))
  | .tup a, .tup b => match intsO a with
    | some as => match intsO b with
      | some bs => some (HT.lexLt as bs)
      | none => none
    | none => none
  | _, _ => none
def leO (x y : D) : Option Bool := match x, y with
  | .int i, .int j => some (decide (i ≤ j))
  | .str a, .str b => some (!decide (b < a))
  | .tup a, .tup b => match intsO a with
    | some as => match intsO b with
      | some bs => some (!HT.lexLt bs as)
      | none => none
    | none => none
  | _, _ => none
def bO (o : Option Bool) : Option D := match o with
  | some b => some (.bl b)
  | none => none
def nbO (o : Option Bool) : Option D := match o with
  | some b => some (.bl (!b))
  | none => none
def isO (x y : D) : Option Bool := match x, y with
  | .non, .non => some true
  | _, .non => some false
  | .bl a, .bl b => some (decide (a = b))
  | _, _ => none
def dEq := pure2 fun x y M => bO (eqO x y M)
def dNe := pure2 fun x y M => nbO (eqO x y M)
def dIn := pure2 fun x y M => bO (inO x y M)
def dNotIn := pure2 fun x y M => nbO (inO x y M)
def dLt := pure2 fun x y _ => bO (ltO x y)
def dLe := pure2 fun x y _ => bO (leO x y)
def dIs := pure2 fun x y _ => bO (isO x y)
def dIsNot := pure2 fun x y _ => nbO (isO x y)

theorem intsO_map {K : PySem.W.Frag} {ρ : Nu} {H : Hp} : ∀ {ds : List D} {vs : List V} {is : List Int}, Dens K ρ H ds vs → intsO ds = some is → vs = is.map V.int
  | _, _, _, .nil, h => by cases h; rfl
  | d :: ds, _, is, .cons r t, h => by
    cases r with
    | int i =>
      unfold intsO at h
      split at h
      · rename_i is' e; cases h; rw [List.map_cons, intsO_map t e]
      · cases h
    | _ => cases h

section
variable {X : Cx} {E : XK}
theorem str_append (a b : List Nat) : ((⟨a.toArray⟩ : Str) ++ (⟨b.toArray⟩ : Str)) = ⟨(a ++ b).toArray⟩ := by
  show (⟨a.toArray ++ b.toArray⟩ : Str) = _
  rw [List.append_toArray]
theorem od_addL {pins : List (Addr × Obj)} {s : Shared} {σ : L2.St} {H : Hp} {x y : V} {v u : Value} {Q : VK} {ρ : Nu} {M : Mem} {dx dy : D} (I : Inv X pins σ H s) (rx : RelV x v) (ry : RelV y u) (R : Rep X.K ρ M H)
    (r1 : Den X.K ρ H dx x) (r2 : Den X.K ρ H dy y) (hp : Post X.K X.mg E ρ H (optO (lstO dx M) fun a => optO (lstO dy M) fun b => if a.length + b.length ≤ 16777216 then .ok (.lst (a ++ b)) M else .bad) fun d _ ρ' H' => ∀ v, Den X.K ρ' H' d v → Q v H') :
    wpAny (model X.prog X.w) X.A (binaryOp .Add v u) (EP X pins σ Q) X.xe s := by
  obtain ⟨a, e1, hp⟩ := optO_post hp
  obtain ⟨b, e2, hp⟩ := optO_post hp
  obtain ⟨p, vs, rfl, h1, t⟩ := lstO_some R r1 e1
  obtain ⟨p', vs', rfl, h1', t'⟩ := lstO_some R r2 e2
  split at hp
  · rename_i hl
    exact op_cat pins s σ H _ _ v u Q I rx ry ⟨p, p', vs, vs', rfl, rfl, h1, h1', by rw [← t.length, ← t'.length]; exact line_of hl, hp.lstTmp R (t.append t')⟩
  · exact hp.elim
theorem od_add : OpR X (binaryOp .Add) (rD X.K X.mg E dAdd) := by
  intro pins s σ H x y v u Q I rx ry h
  obtain ⟨ρ, M, dx, dy, R, r1, r2, hp⟩ := h
  unfold dAdd at hp
  split at hp
  · cases r1; cases r2
    exact op_add pins s σ H _ _ v u Q I rx ry ⟨_, _, rfl, rfl, hp.here R _ (.int _)⟩
  · rename_i a b
    cases r1; cases r2
    split at hp
    · rename_i hl
      exact op_add_str pins s σ H _ _ v u Q I rx ry ⟨_, _, rfl, rfl, by show a.toArray.size + b.toArray.size ≤ sizeLine; simpa [sizeLine] using hl, by rw [str_append]; exact hp.here R _ (.str _)⟩
    · exact hp.elim
  · cases r1 with
    | tup hs t =>
      cases r2 with
      | tup hs' t' =>
        split at hp
        · rename_i hl
          refine op_catA pins s σ H _ _ v u Q I rx ry ⟨_, _, _, _, rfl, rfl, hs.sq, hs'.sq, by rw [← t.length, ← t'.length]; exact line_of hl, fun e => ?_, fun _ e => ?_, fun _ _ => ?_⟩
          · subst e
            cases t
            exact hp.here R _ (.tup hs' t')
          · subst e
            cases t'
            rw [List.append_nil] at hp; exact hp.here R _ (.tup hs t)
          · exact hp.tupNew R (t.append t')
        · exact hp.elim
  · exact od_addL I rx ry R r1 r2 hp
theorem od_addN : OpR X (binaryOp .Add) (rD X.K X.mg E dAddN) := by
  intro pins s σ H x y v u Q I rx ry h
  obtain ⟨ρ, M, dx, dy, R, r1, r2, hp⟩ := h
  obtain ⟨a, e1, hp⟩ := optO_post hp
  obtain ⟨b, e2, hp⟩ := optO_post hp
  obtain ⟨p, vs, rfl, h1, t⟩ := lstO_some R r1 e1
  obtain ⟨p', vs', rfl, h1', t'⟩ := lstO_some R r2 e2
  split at hp
  · rename_i hl
    exact op_cat pins s σ H _ _ v u Q I rx ry ⟨p, p', vs, vs', rfl, rfl, h1, h1', by rw [← t.length, ← t'.length]; exact line_of hl, hp.lstNew R (t.append t')⟩
  · exact hp.elim
theorem od_sub : OpR X (binaryOp .Sub) (rD X.K X.mg E dSub) := by
  intro pins s σ H x y v u Q I rx ry h
  obtain ⟨ρ, M, dx, dy, R, r1, r2, hp⟩ := h
  unfold dSub at hp
  cases r1 <;> cases r2 <;> first | exact hp.elim | skip
  exact op_sub pins s σ H _ _ v u Q I rx ry ⟨_, _, rfl, rfl, hp.here R _ (.int _)⟩
theorem od_mul : OpR X (binaryOp .Mult) (rD X.K X.mg E dMul) := by
  intro pins s σ H x y v u Q I rx ry h
  obtain ⟨ρ, M, dx, dy, R, r1, r2, hp⟩ := h
  unfold dMul at hp
  split at hp
  · rename_i i j
    cases r1; cases r2
    split at hp
    · rename_i hm
      unfold mulOk at hm
      simp only [Bool.or_eq_true, Bool.and_eq_true, decide_eq_true_eq] at hm
      rcases hm with hm | hm
      · exact op_mul pins s σ H _ _ v u Q I rx ry ⟨_, _, rfl, rfl, hm, hp.here R _ (.int _)⟩
      · exact op_mulW pins s σ H _ _ v u Q I rx ry ⟨_, _, rfl, rfl, hm, hp.here R _ (.int _)⟩
    · exact hp.elim
  · rename_i k
    cases r2
    cases r1 with
    | tup hs t =>
      split at hp
      · rename_i hl
        exact op_repT pins s σ H _ _ v u Q I rx ry ⟨_, k, _, rfl, rfl, hs.sq, (fun e => by subst e; cases t; exact hl.2.2.2 rfl), hl.1, hl.2.1, by rw [← t.length]; exact hl.2.2.1, hp.tupNew R (t.replicate _)⟩
      · exact hp.elim
  · rename_i k _ _
    cases r2
    obtain ⟨a, e1, hp⟩ := optO_post hp
    obtain ⟨p, vs, rfl, h1, t⟩ := lstO_some R r1 e1
    split at hp
    · rename_i hl
      exact op_rep pins s σ H _ _ v u Q I rx ry ⟨p, _, vs, rfl, rfl, h1, hl.1, hl.2.1, by rw [← t.length]; exact line_of hl.2.2, hp.lstTmp R (t.replicate _)⟩
    · exact hp.elim
  · exact hp.elim
theorem od_mulN : OpR X (binaryOp .Mult) (rD X.K X.mg E dMulN) := by
  intro pins s σ H x y v u Q I rx ry h
  obtain ⟨ρ, M, dx, dy, R, r1, r2, hp⟩ := h
  unfold dMulN at hp
  split at hp
  · cases r2
    obtain ⟨a, e1, hp⟩ := optO_post hp
    obtain ⟨p, vs, rfl, h1, t⟩ := lstO_some R r1 e1
    split at hp
    · rename_i hl
      exact op_rep pins s σ H _ _ v u Q I rx ry ⟨p, _, vs, rfl, rfl, h1, hl.1, hl.2.1, by rw [← t.length]; exact line_of hl.2.2, hp.lstNew R (t.replicate _)⟩
    · exact hp.elim
  · exact hp.elim
theorem od_div : OpR X (binaryOp .FloorDiv) (rD X.K X.mg E dDiv) := by
  intro pins s σ H x y v u Q I rx ry h
  obtain ⟨ρ, M, dx, dy, R, r1, r2, hp⟩ := h
  unfold dDiv at hp
  cases r1 <;> cases r2 <;> first | exact hp.elim | skip
  dsimp only at hp
  split at hp
  · rename_i hl
    exact op_fdivW pins s σ H _ _ v u Q I rx ry ⟨_, _, rfl, rfl, hl, hp.here R _ (.int _)⟩
  · exact hp.elim
theorem od_mod : OpR X (binaryOp .Mod) (rD X.K X.mg E dMod) := by
  intro pins s σ H x y v u Q I rx ry h
  obtain ⟨ρ, M, dx, dy, R, r1, r2, hp⟩ := h
  unfold dMod at hp
  cases r1 <;> cases r2 <;> first | exact hp.elim | skip
  dsimp only at hp
  split at hp
  · rename_i hl
    exact op_mod pins s σ H _ _ v u Q I rx ry ⟨_, _, rfl, rfl, hl, hp.here R _ (.int _)⟩
  · exact hp.elim
theorem od_pow : OpR X (binaryOp .Pow) (rD X.K X.mg E dPow) := by
  intro pins s σ H x y v u Q I rx ry h
  obtain ⟨ρ, M, dx, dy, R, r1, r2, hp⟩ := h
  unfold dPow at hp
  cases r1 <;> cases r2 <;> first | exact hp.elim | skip
  dsimp only at hp
  split at hp
  · rename_i hl
    exact op_pow pins s σ H _ _ v u Q I rx ry ⟨_, _, rfl, rfl, hl, hp.here R _ (.int _)⟩
  · exact hp.elim
theorem od_shr : OpR X (binaryOp .RShift) (rD X.K X.mg E dShr) := by
  intro pins s σ H x y v u Q I rx ry h
  obtain ⟨ρ, M, dx, dy, R, r1, r2, hp⟩ := h
  unfold dShr at hp
  cases r1 <;> cases r2 <;> first | exact hp.elim | skip
  dsimp only at hp
  split at hp
  · rename_i hl
    exact op_shr pins s σ H _ _ v u Q I rx ry ⟨_, _, rfl, rfl, hl, hp.here R _ (.int _)⟩
  · exact hp.elim
theorem od_shl : OpR X (binaryOp .LShift) (rD X.K X.mg E dShl) := by
  intro pins s σ H x y v u Q I rx ry h
  obtain ⟨ρ, M, dx, dy, R, r1, r2, hp⟩ := h
  unfold dShl at hp
  cases r1 <;> cases r2 <;> first | exact hp.elim | skip
  dsimp only at hp
  split at hp
  · rename_i hl
    exact op_shl pins s σ H _ _ v u Q I rx ry ⟨_, _, rfl, rfl, hl, hp.here R _ (.int _)⟩
  · exact hp.elim
theorem od_bitand : OpR X (binaryOp .BitAnd) (rD X.K X.mg E dBitAnd) := by
  intro pins s σ H x y v u Q I rx ry h
  obtain ⟨ρ, M, dx, dy, R, r1, r2, hp⟩ := h
  unfold dBitAnd at hp
  cases r1 <;> cases r2 <;> first | exact hp.elim | skip
  exact op_and pins s σ H _ _ v u Q I rx ry ⟨_, _, rfl, rfl, hp.here R _ (.int _)⟩
/-- a comparison whose answer is an option -/
theorem pure2_post {ρ : Nu} {M : Mem} {H : Hp} {o : Option D} {P : D → Mem → Nu → Hp → Prop} (h : Post X.K X.mg E ρ H (optO o fun d => .ok d M) P) : ∃ d, o = some d ∧ Post X.K X.mg E ρ H (.ok d M) P := optO_post h
theorem bO_some {o : Option Bool} {d : D} (h : bO o = some d) : ∃ b, o = some b ∧ d = .bl b := by
  cases o with
  | none => cases h
  | some b => cases h; exact ⟨b, rfl, rfl⟩
theorem nbO_some {o : Option Bool} {d : D} (h : nbO o = some d) : ∃ b, o = some b ∧ d = .bl (!b) := by
  cases o with
  | none => cases h
  | some b => cases h; exact ⟨b, rfl, rfl⟩
theorem eqO_some {x y : D} {M : Mem} {b : Bool} (h : eqO x y M = some b) : ∃ p q, pdN M 60 x = some p ∧ pdN M 60 y = some q ∧ SeqAt.shaped p = true ∧ SeqAt.shaped q = true ∧ b = PyData.eqv p q := by
  unfold eqO at h
  split at h
  · rename_i p e
    split at h
    · rename_i q e'
      split at h
      · rename_i hs
        rw [Bool.and_eq_true] at hs
        cases h
        exact ⟨p, q, e, e', hs.1, hs.2, rfl⟩
      · cases h
    · cases h
  · cases h
theorem od_eq (hu : X.A.units + 64 < cLine) : OpR X (compareOp .Eq) (rD X.K X.mg E dEq) := by
  intro pins s σ H x y v u Q I rx ry h
  obtain ⟨ρ, M, dx, dy, R, r1, r2, hp⟩ := h
  obtain ⟨d, e0, hp⟩ := pure2_post hp
  obtain ⟨b, e, hd⟩ := bO_some e0
  subst hd
  clear e0
  obtain ⟨p, q, e1, e2, s1, s2, rfl⟩ := eqO_some e
  exact op_eqD hu pins s σ H _ _ v u Q I rx ry ⟨p, q, pdN_dp R _ _ _ _ r1 e1, pdN_dp R _ _ _ _ r2 e2, s1, s2, hp.here R _ (.bl _)⟩
theorem od_ne (hu : X.A.units + 64 < cLine) : OpR X (compareOp .NotEq) (rD X.K X.mg E dNe) := by
  intro pins s σ H x y v u Q I rx ry h
  obtain ⟨ρ, M, dx, dy, R, r1, r2, hp⟩ := h
  obtain ⟨d, e0, hp⟩ := pure2_post hp
  obtain ⟨b, e, hd⟩ := nbO_some e0
  subst hd
  clear e0
  obtain ⟨p, q, e1, e2, s1, s2, rfl⟩ := eqO_some e
  exact op_neD hu pins s σ H _ _ v u Q I rx ry ⟨p, q, pdN_dp R _ _ _ _ r1 e1, pdN_dp R _ _ _ _ r2 e2, s1, s2, hp.here R _ (.bl _)⟩
theorem op_inDT (hu : X.A.units + 65 < cLine) : OpR X (compareOp .In) (fun x y H Q => ∃ d ds, Dp X.K H x d ∧ Dp X.K H y (.tuple ds) ∧ SeqAt.shaped d = true ∧ SeqAt.shaped (.tuple ds) = true ∧ Q (.bl (ds.any fun z => PyData.eqv z d)) H) := by
  intro pins s σ H x y v u Q I rx ry h
  obtain ⟨d, ds, hd, he, sd, se, q⟩ := h
  obtain ⟨as, r1⟩ := Dp.reads I d x v hd rx
  obtain ⟨bs, r2⟩ := Dp.reads I (.tuple ds) y u he ry
  exact SeqAt.in_tuple_reads r2 r1 (SeqAt.canLay_of_shaped se) (SeqAt.canLay_of_shaped sd) (room_in_shaped sd hu) ⟨.bl _, H, I, rfl, q⟩
theorem op_notInDT (hu : X.A.units + 65 < cLine) : OpR X (compareOp .NotIn) (fun x y H Q => ∃ d ds, Dp X.K H x d ∧ Dp X.K H y (.tuple ds) ∧ SeqAt.shaped d = true ∧ SeqAt.shaped (.tuple ds) = true ∧ Q (.bl (!ds.any fun z => PyData.eqv z d)) H) := by
  intro pins s σ H x y v u Q I rx ry h
  obtain ⟨d, ds, hd, he, sd, se, q⟩ := h
  obtain ⟨as, r1⟩ := Dp.reads I d x v hd rx
  obtain ⟨bs, r2⟩ := Dp.reads I (.tuple ds) y u he ry
  exact SeqAt.notIn_tuple_reads r2 r1 (SeqAt.canLay_of_shaped se) (SeqAt.canLay_of_shaped sd) (room_in_shaped sd hu) ⟨.bl _, H, I, rfl, q⟩
theorem inO_some {x c : D} {M : Mem} {b : Bool} (h : inO x c M = some b) : (∃ a z, x = .str [a] ∧ c = .str z ∧ b = decide (a ∈ z)) ∨
    ∃ p q qs, pdN M 60 x = some p ∧ pdN M 60 c = some q ∧ (q = .list qs ∨ q = .tuple qs) ∧ SeqAt.shaped p = true ∧ SeqAt.shaped q = true ∧ b = qs.any fun z => PyData.eqv z p := by
  unfold inO at h
  split at h
  · rename_i a z
    cases h
    exact .inl ⟨a, z, rfl, rfl, rfl⟩
  · split at h
    · rename_i p e
      split at h
      · rename_i qs e'
        split at h
        · rename_i hs
          rw [Bool.and_eq_true] at hs
          cases h
          exact .inr ⟨p, _, qs, e, e', .inl rfl, hs.1, hs.2, rfl⟩
        · cases h
      · rename_i qs e'
        split at h
        · rename_i hs
          rw [Bool.and_eq_true] at hs
          cases h
          exact .inr ⟨p, _, qs, e, e', .inr rfl, hs.1, hs.2, rfl⟩
        · cases h
      · cases h
    · cases h
theorem od_in (hu : X.A.units + 65 < cLine) : OpR X (compareOp .In) (rD X.K X.mg E dIn) := by
  intro pins s σ H x y v u Q I rx ry h
  obtain ⟨ρ, M, dx, dy, R, r1, r2, hp⟩ := h
  obtain ⟨d, e0, hp⟩ := pure2_post hp
  obtain ⟨b, e, hd⟩ := bO_some e0
  subst hd
  clear e0
  rcases inO_some e with ⟨a, z, rfl, rfl, rfl⟩ | ⟨p, q, qs, e1, e2, e3, s1, s2, rfl⟩
  · cases r1; cases r2
    exact op_in_sign pins s σ H _ _ v u Q I rx ry ⟨a, _, rfl, rfl, by simpa using hp.here R _ (.bl _)⟩
  · rcases e3 with rfl | rfl
    · exact op_inD hu pins s σ H _ _ v u Q I rx ry ⟨p, qs, pdN_dp R _ _ _ _ r1 e1, pdN_dp R _ _ _ _ r2 e2, s1, s2, hp.here R _ (.bl _)⟩
    · exact op_inDT hu pins s σ H _ _ v u Q I rx ry ⟨p, qs, pdN_dp R _ _ _ _ r1 e1, pdN_dp R _ _ _ _ r2 e2, s1, s2, hp.here R _ (.bl _)⟩
theorem od_notIn (hu : X.A.units + 65 < cLine) : OpR X (compareOp .NotIn) (rD X.K X.mg E dNotIn) := by
  intro pins s σ H x y v u Q I rx ry h
  obtain ⟨ρ, M, dx, dy, R, r1, r2, hp⟩ := h
  obtain ⟨d, e0, hp⟩ := pure2_post hp
  obtain ⟨b, e, hd⟩ := nbO_some e0
  subst hd
  clear e0
  rcases inO_some e with ⟨a, z, rfl, rfl, rfl⟩ | ⟨p, q, qs, e1, e2, e3, s1, s2, rfl⟩
  · cases r1; cases r2
    exact op_notIn_sign pins s σ H _ _ v u Q I rx ry ⟨a, _, rfl, rfl, by simpa using hp.here R _ (.bl _)⟩
  · rcases e3 with rfl | rfl
    · exact op_notInD hu pins s σ H _ _ v u Q I rx ry ⟨p, qs, pdN_dp R _ _ _ _ r1 e1, pdN_dp R _ _ _ _ r2 e2, s1, s2, hp.here R _ (.bl _)⟩
    · exact op_notInDT hu pins s σ H _ _ v u Q I rx ry ⟨p, qs, pdN_dp R _ _ _ _ r1 e1, pdN_dp R _ _ _ _ r2 e2, s1, s2, hp.here R _ (.bl _)⟩
theorem ltO_some {x y : D} {b : Bool} (h : ltO x y = some b) : (∃ i j, x = .int i ∧ y = .int j ∧ b = decide (i < j)) ∨ (∃ s t, x = .str s ∧ y = .str t ∧ b = decide (s < t)) ∨
    ∃ ds es is js, x = .tup ds ∧ y = .tup es ∧ intsO ds = some is ∧ intsO es = some js ∧ b = HT.lexLt is js := by
  unfold ltO at h
  split at h
  · cases h; exact .inl ⟨_, _, rfl, rfl, rfl⟩
  · cases h; exact .inr (.inl ⟨_, _, rfl, rfl, rfl⟩)
  · split at h
    · rename_i e1
      split at h
      · rename_i e2
        cases h; exact .inr (.inr ⟨_, _, _, _, rfl, rfl, e1, e2, rfl⟩)
      · cases h
    · cases h
  · cases h
theorem leO_some {x y : D} {b : Bool} (h : leO x y = some b) : (∃ i j, x = .int i ∧ y = .int j ∧ b = decide (i ≤ j)) ∨ (∃ s t, x = .str s ∧ y = .str t ∧ b = !decide (t < s)) ∨
    ∃ ds es is js, x = .tup ds ∧ y = .tup es ∧ intsO ds = some is ∧ intsO es = some js ∧ b = !HT.lexLt js is := by
  unfold leO at h
  split at h
  · cases h; exact .inl ⟨_, _, rfl, rfl, rfl⟩
  · cases h; exact .inr (.inl ⟨_, _, rfl, rfl, rfl⟩)
  · split at h
    · rename_i e1
      split at h
      · rename_i e2
        cases h; exact .inr (.inr ⟨_, _, _, _, rfl, rfl, e1, e2, rfl⟩)
      · cases h
    · cases h
  · cases h
theorem lexAt_shift (e r : Nat → Bool) (z : Bool) : ∀ (k i : Nat), Ob.lexAt (fun j => e (j + 1)) (fun j => r (j + 1)) z i k = Ob.lexAt e r z (i + 1) k
  | 0, _ => rfl
  | k + 1, i => by
    rw [Ob.lexAt_succ, Ob.lexAt_succ, lexAt_shift e r z k (i + 1)]
theorem lexAt_le : ∀ (ns ms : List Int), Ob.lexAt (fun j => decide (ns.getD j 0 = ms.getD j 0)) (fun j => decide (ns.getD j 0 ≤ ms.getD j 0)) (decide (ns.length ≤ ms.length)) 0 (min ns.length ms.length) = !HT.lexLt ms ns
  | [], [] => rfl
  | [], _ :: _ => rfl
  | n :: ns, [] => rfl
  | n :: ns, m :: ms => by
    have ih := lexAt_le ns ms
    have e1 : min (n :: ns).length (m :: ms).length = min ns.length ms.length + 1 := by simp only [List.length_cons]; omega
    rw [e1, Ob.lexAt_succ]
    have e2 := lexAt_shift (fun j => decide ((n :: ns).getD j 0 = (m :: ms).getD j 0)) (fun j => decide ((n :: ns).getD j 0 ≤ (m :: ms).getD j 0)) (decide ((n :: ns).length ≤ (m :: ms).length)) (min ns.length ms.length) 0
    rw [← e2]
    simp only [List.getD_cons_succ, List.getD_cons_zero, List.length_cons, Nat.add_le_add_iff_right, decide_eq_true_eq]
    rw [ih]
    show _ = !(if m = n then HT.lexLt ms ns else decide (m < n))
    by_cases h : n = m
    · subst h; simp
    · rw [if_neg h, if_neg (Ne.symm h)]
      by_cases h2 : n ≤ m
      · rw [decide_eq_true h2, decide_eq_false (by omega)]; rfl
      · rw [decide_eq_false h2, decide_eq_true (by omega)]; rfl
theorem od_lt (hu : X.A.units < cLine) : OpR X (compareOp .Lt) (rD X.K X.mg E dLt) := by
  intro pins s σ H x y v u Q I rx ry h
  obtain ⟨ρ, M, dx, dy, R, r1, r2, hp⟩ := h
  obtain ⟨d, e0, hp⟩ := pure2_post hp
  obtain ⟨b, e, hd⟩ := bO_some e0
  subst hd
  have hq := hp.here R _ (.bl b)
  rcases ltO_some e with ⟨i, j, rfl, rfl, rfl⟩ | ⟨i, j, rfl, rfl, rfl⟩ | ⟨ds, es, is, js, rfl, rfl, e1, e2, rfl⟩
  · cases r1; cases r2
    exact op_lt pins s σ H _ _ v u Q I rx ry ⟨_, _, rfl, rfl, hq⟩
  · cases r1; cases r2
    exact op_lt_str pins s σ H _ _ v u Q I rx ry ⟨_, _, rfl, rfl, hq⟩
  · cases r1 with
    | tup hs t =>
      cases r2 with
      | tup hs' t' =>
        have hs := hs.sq
        have hs' := hs'.sq
        rw [intsO_map t e1] at hs
        rw [intsO_map t' e2] at hs'
        exact op_ltT hu pins s σ H _ _ v u Q I rx ry ⟨_, _, _, _, rfl, rfl, hs, hs', hq⟩
theorem od_le (hu : X.A.units < cLine) : OpR X (compareOp .LtE) (rD X.K X.mg E dLe) := by
  intro pins s σ H x y v u Q I rx ry h
  obtain ⟨ρ, M, dx, dy, R, r1, r2, hp⟩ := h
  obtain ⟨d, e0, hp⟩ := pure2_post hp
  obtain ⟨b, e, hd⟩ := bO_some e0
  subst hd
  have hq := hp.here R _ (.bl b)
  rcases leO_some e with ⟨i, j, rfl, rfl, rfl⟩ | ⟨i, j, rfl, rfl, rfl⟩ | ⟨ds, es, is, js, rfl, rfl, e1, e2, rfl⟩
  · cases r1; cases r2
    exact op_le pins s σ H _ _ v u Q I rx ry ⟨_, _, rfl, rfl, hq⟩
  · cases r1; cases r2
    exact op_le_str pins s σ H _ _ v u Q I rx ry ⟨_, _, rfl, rfl, hq⟩
  · cases r1 with
    | tup hs t =>
      cases r2 with
      | tup hs' t' =>
        have hs := hs.sq
        have hs' := hs'.sq
        rw [intsO_map t e1] at hs
        rw [intsO_map t' e2] at hs'
        exact op_leT hu pins s σ H _ _ v u Q I rx ry ⟨_, _, _, _, rfl, rfl, hs, hs', by rw [lexAt_le]; exact hq⟩
/-- > and >= of ints and texts -/
def gtO (x y : D) : Option Bool := match x, y with
  | .int i, .int j => some (decide (j < i))
  | .str a, .str b => some (decide (b < a))
  | _, _ => none
def geO (x y : D) : Option Bool := match x, y with
  | .int i, .int j => some (decide (j ≤ i))
  | .str a, .str b => some (!decide (a < b))
  | _, _ => none
def dGt := pure2 fun x y _ => bO (gtO x y)
def dGe := pure2 fun x y _ => bO (geO x y)
theorem od_gt : OpR X (compareOp .Gt) (rD X.K X.mg E dGt) := by
  intro pins s σ H x y v u Q I rx ry h
  obtain ⟨ρ, M, dx, dy, R, r1, r2, hp⟩ := h
  obtain ⟨d, e0, hp⟩ := pure2_post hp
  obtain ⟨b, e, hd⟩ := bO_some e0
  subst hd
  have hq := hp.here R _ (.bl b)
  unfold gtO at e
  split at e
  · cases r1; cases r2; cases e
    exact op_gt pins s σ H _ _ v u Q I rx ry ⟨_, _, rfl, rfl, hq⟩
  · cases r1; cases r2; cases e
    exact op_gt_str pins s σ H _ _ v u Q I rx ry ⟨_, _, rfl, rfl, hq⟩
  · cases e
theorem od_ge : OpR X (compareOp .GtE) (rD X.K X.mg E dGe) := by
  intro pins s σ H x y v u Q I rx ry h
  obtain ⟨ρ, M, dx, dy, R, r1, r2, hp⟩ := h
  obtain ⟨d, e0, hp⟩ := pure2_post hp
  obtain ⟨b, e, hd⟩ := bO_some e0
  subst hd
  have hq := hp.here R _ (.bl b)
  unfold geO at e
  split at e
  · cases r1; cases r2; cases e
    exact op_ge pins s σ H _ _ v u Q I rx ry ⟨_, _, rfl, rfl, hq⟩
  · cases r1; cases r2; cases e
    exact op_ge_str pins s σ H _ _ v u Q I rx ry ⟨_, _, rfl, rfl, hq⟩
  · cases e
def isNon (d : D) : Bool := match d with
  | .non => true
  | _ => false
theorem isO_some {x y : D} {b : Bool} (h : isO x y = some b) : (y = .non ∧ b = isNon x) ∨ ∃ c d, x = .bl c ∧ y = .bl d ∧ b = decide (c = d) := by
  unfold isO at h
  split at h
  · cases h; exact .inl ⟨rfl, rfl⟩
  · rename_i hx
    cases h
    refine .inl ⟨rfl, ?_⟩
    cases x <;> first | rfl | exact absurd rfl hx
  · cases h; exact .inr ⟨_, _, rfl, rfl, rfl⟩
  · cases h
theorem non_of {K : PySem.W.Frag} {ρ : Nu} {H : Hp} {d : D} {v : V} (r : Den K ρ H d v) : decide (v = .non) = isNon d := by
  cases r <;> simp [isNon]
theorem od_isNot : OpR X (compareOp .IsNot) (rD X.K X.mg E dIsNot) := by
  intro pins s σ H x y v u Q I rx ry h
  obtain ⟨ρ, M, dx, dy, R, r1, r2, hp⟩ := h
  obtain ⟨d, e0, hp⟩ := pure2_post hp
  obtain ⟨b, e, hd⟩ := nbO_some e0
  subst hd
  have hq := hp.here R _ (.bl _)
  rcases isO_some e with ⟨rfl, rfl⟩ | ⟨c, d, rfl, rfl, rfl⟩
  · cases r2
    exact op_notN pins s σ H _ _ v u Q I rx ry ⟨rfl, by rw [non_of r1]; exact hq⟩
  · cases r1; cases r2
    exact op_isnot_bl pins s σ H _ _ v u Q I rx ry ⟨_, _, rfl, rfl, hq⟩
theorem od_is : OpR X (compareOp .Is) (rD X.K X.mg E dIs) := by
  intro pins s σ H x y v u Q I rx ry h
  obtain ⟨ρ, M, dx, dy, R, r1, r2, hp⟩ := h
  obtain ⟨d, e0, hp⟩ := pure2_post hp
  obtain ⟨b, e, hd⟩ := bO_some e0
  subst hd
  have hq := hp.here R _ (.bl _)
  rcases isO_some e with ⟨rfl, rfl⟩ | ⟨c, d, rfl, rfl, rfl⟩
  · cases r2
    exact op_isN pins s σ H _ _ v u Q I rx ry ⟨rfl, by rw [non_of r1]; exact hq⟩
  · cases r1; cases r2
    exact op_is_bl pins s σ H _ _ v u Q I rx ry ⟨_, _, rfl, rfl, hq⟩
def fUn (g : D → Mem → Option D) (f : SF) : SF := fun σ M => (f σ M).bind fun x M1 => optO (g x M1) fun d => .ok d M1
def uNeg : D → Mem → Option D := fun x _ => match x with
  | .int i => some (.int (-i))
  | _ => none
theorem je_neg {a : Expr} {f : SF} {pos : Pos} (h : JE X E a f) : JE X E (.UnaryOp .USub a pos) (fUn uNeg f) := by
  refine PE.weak (pe_un un_neg h) fun σ H Q ⟨ρ, M, σd, R, en, hp⟩ => ⟨ρ, M, σd, R, en, hp.bind.imp fun x M1 ρ1 H1 x1 R1 hp1 v rv => ?_⟩
  obtain ⟨d, e, hp1⟩ := optO_post hp1
  unfold uNeg at e
  cases rv <;> cases e
  exact ⟨_, rfl, hp1.here R1 _ (.int _)⟩
end
end KP

/-! subscripts, slices, calls of what is built in -/
namespace KP
open PySem PySem.Spec PyProof.Rows L2

/-- a list that is read: its items -/
def lsO (x : D) (M : Mem) : Option (List D) := match x with
  | .lst xs => some xs
  | .fl xs => some xs
  | .ref n => match M[n]? with
    | some (.lst xs) => some xs
    | _ => none
  | _ => none
/-- a list or a tuple that is read -/
def seqO (x : D) (M : Mem) : Option (List D) := match x with
  | .tup xs => some xs
  | x => lsO x M
def ixO (x i : D) (M : Mem) : Option D := match i with
  | .int k => match x with
    | .str z => if z.length ≤ 16777216 then (match atI z k with
      | some c => some (.str [c])
      | none => none) else none
    | x => match seqO x M with
      | some xs => atI xs k
      | none => none
  | _ => none
def cutD {α : Type} (xs : List α) (lo hi : Option Int) : List α := (xs.drop (HT.sIx xs.length 0 lo)).take (HT.sIx xs.length xs.length hi - HT.sIx xs.length 0 lo)
def slO (x : D) (lo hi : Option Int) (M : Mem) : Option D := match x with
  | .tup xs => some (.tup (cutD xs lo hi))
  | .str z => if z.length ≤ 16777216 then some (.str (cutD z lo hi)) else none
  | x => match lsO x M with
    | some xs => some (.lst (cutD xs lo hi))
    | none => none
section
variable {K : PySem.W.Frag} {ρ : Nu} {M : Mem} {H : Hp}
theorem lsO_some {x : D} {v : V} {xs : List D} (R : Rep K ρ M H) (r : Den K ρ H x v) (h : lsO x M = some xs) : ∃ a vs, v = .ref a ∧ SqL K H a vs ∧ Dens K ρ H xs vs := by
  cases r with
  | lst h1 h2 hs t => cases h; exact ⟨_, _, rfl, .of hs, t⟩
  | fl hs t => cases h; exact ⟨_, _, rfl, hs.sq, t⟩
  | ref hr =>
    unfold lsO at h
    dsimp only at h
    split at h
    · rename_i xs e
      cases h
      obtain ⟨vs, e1, t⟩ := R.obj _ _ _ hr e
      exact ⟨_, _, rfl, .of e1, t⟩
    · cases h
  | _ => cases h
theorem seqO_some {x : D} {v : V} {xs : List D} (R : Rep K ρ M H) (r : Den K ρ H x v) (h : seqO x M = some xs) : ∃ a vs, v = .ref a ∧ (SqL K H a vs ∨ SqD K H a xs vs) ∧ Dens K ρ H xs vs := by
  unfold seqO at h
  split at h
  · cases h
    cases r with
    | tup hs t => exact ⟨_, _, rfl, .inr hs, t⟩
  · obtain ⟨a, vs, e, h1, t⟩ := lsO_some R r h
    exact ⟨a, vs, e, .inl h1, t⟩
theorem Dens.at {ds : List D} {vs : List V} {i : Int} {d : D} (h : Dens K ρ H ds vs) (e : atI ds i = some d) : ∃ v, atI vs i = some v ∧ Den K ρ H d v := by
  unfold atI at e ⊢
  rw [← h.length]
  cases q : ixN ds.length i with
  | none => rw [q] at e; cases e
  | some j =>
    rw [q] at e
    exact h.get e
theorem Dens.cut {ds : List D} {vs : List V} (h : Dens K ρ H ds vs) (lo hi : Option Int) : Dens K ρ H (cutD ds lo hi) (cutV vs lo hi) := by
  unfold cutD cutV
  rw [h.length]
  exact (h.drop _).take _
end
section
variable {X : Cx} {E : XK}
theorem ox_ix : IxR X (rD X.K X.mg E (pure2 ixO)) := by
  intro value slice pins s σ H x y v u Q I rx ry h hsub
  obtain ⟨ρ, M, dx, dy, R, r1, r2, hp⟩ := h
  obtain ⟨d, e, hp2⟩ := pure2_post hp
  clear hp
  have hp := hp2
  clear hp2
  unfold ixO at e
  split at e
  · rename_i k
    cases r2
    split at e
    · rename_i z
      cases r1
      split at e
      · rename_i hz
        split at e
        · rename_i c hc
          cases e
          refine ix_str value slice pins s σ H _ _ v u Q I rx ry ⟨_, k, c, rfl, rfl, by show z.toArray.size ≤ sizeLine; simpa [sizeLine] using hz, by simpa using hc, ?_⟩ hsub
          exact hp.here R _ (.str [c])
        · cases e
      · cases e
    · split at e
      · rename_i xs hx
        obtain ⟨a, vs, rfl, hq, t⟩ := seqO_some R r1 hx
        obtain ⟨w, hw, rw'⟩ := t.at e
        rcases hq with hq | hq
        · exact ix_list value slice pins s σ H _ _ v u Q I rx ry ⟨a, vs, k, w, rfl, rfl, hq, hw, hp.here R _ rw'⟩ hsub
        · exact ix_tup value slice pins s σ H _ _ v u Q I rx ry ⟨a, vs, k, w, rfl, rfl, hq.sq, hw, hp.here R _ rw'⟩ hsub
      · cases e
  · cases e
theorem je_ix {a b : Expr} {fa fb : SF} {pos : Pos} (ha : JE X E a fa) (hb : JE X E b fb) (hs : PlainIx b := by intro _ _; rfl) : JE X E (.Subscript a b pos) (fBin (pure2 ixO) fa fb) :=
  PE.weak (pe_ix ox_ix ha hb hs) fun σ H Q h => tOp_of h
/-- a part of a slice -/
abbrev SO := SD → Mem → Out (Option Int)
def tO (K : PySem.W.Frag) (mg : Str → Option Value) (E : XK) (f : SO) : TO := fun σ H Q => ∃ ρ M σd, Rep K ρ M H ∧ EnvD K ρ H σd σ ∧
  Post K mg E ρ H (f σd M) fun o _ _ H' => Q o H'
abbrev JO (X : Cx) (E : XK) (e : Option Expr) (f : SO) : Prop := PO X e (tO X.K X.mg E f)
theorem PO.weak {X : Cx} {e : Option Expr} {t t' : TO} (h : PO X e t) (w : ∀ σ H Q, t' σ H Q → t σ H Q) : PO X e t' := ⟨fun pins s σ H Q I q => h.run pins s σ H Q I (w σ H Q q)⟩
def oNone : SO := fun _ M => .ok none M
def oSome (f : SF) : SO := fun σ M => (f σ M).bind fun x M1 => match x with
  | .int i => .ok (some i) M1
  | _ => .bad
theorem jo_none : JO X E none oNone := PO.weak po_none fun σ H Q ⟨ρ, M, σd, R, en, hp⟩ => hp.here R
theorem jo_some {e : Expr} {f : SF} (h : JE X E e f) : JO X E (some e) (oSome f) := by
  refine PO.weak (po_some h) fun σ H Q ⟨ρ, M, σd, R, en, hp⟩ => ⟨ρ, M, σd, R, en, hp.bind.imp fun x M1 ρ1 H1 x1 R1 hp1 v rv => ?_⟩
  cases rv with
  | int i => exact ⟨i, rfl, hp1.here R1⟩
  | _ => exact hp1.elim
def fSl (f : SF) (lo hi : SO) : SF := fun σ M => (f σ M).bind fun x M1 => (lo σ M1).bind fun l M2 => (hi σ M2).bind fun h M3 => optO (slO x l h M3) fun d => .ok d M3
theorem os_sl : SlR X (fun x lo hi H Q => ∃ ρ M dx, Rep X.K ρ M H ∧ Den X.K ρ H dx x ∧ Post X.K X.mg E ρ H (optO (slO dx lo hi M) fun d => .ok d M) fun d _ ρ' H' => ∀ v, Den X.K ρ' H' d v → Q v H') := by
  intro pins s σ H x v vl vu lo hi sl Q I rx hs pl pu h
  obtain ⟨ρ, M, dx, R, r1, hp⟩ := h
  obtain ⟨d, e, hp⟩ := optO_post hp
  unfold slO at e
  split at e
  · cases e
    cases r1 with
    | tup hq t =>
      refine sl_tupA pins s σ H _ v vl vu lo hi sl Q I rx hs pl pu ⟨_, _, rfl, hq.sq, fun hw => ?_, fun _ => hp.tupNew R (t.cut lo hi)⟩
      have ec := hp.here R
      unfold cutD at ec
      rw [t.length, hw.1, hw.2, List.drop_zero, Nat.sub_zero, ← t.length, List.take_length] at ec
      exact ec _ (.tup hq t)
  · rename_i z
    cases r1
    split at e
    · rename_i hz
      cases e
      refine sl_str pins s σ H _ v vl vu lo hi sl Q I rx hs pl pu ⟨_, rfl, by show z.toArray.size ≤ sizeLine; simpa [sizeLine] using hz, ?_⟩
      have ez : cutS ⟨z.toArray⟩ lo hi = ⟨(cutD z lo hi).toArray⟩ := by
        unfold cutS cutD
        show (⟨((z.toArray.toList.drop (HT.sIx z.toArray.size 0 lo)).take (HT.sIx z.toArray.size z.toArray.size hi - HT.sIx z.toArray.size 0 lo)).toArray⟩ : Str) = _
        rw [List.size_toArray]
      rw [ez]
      exact hp.here R _ (.str _)
    · cases e
  · split at e
    · rename_i xs hx
      cases e
      obtain ⟨a, vs, rfl, hs', t⟩ := lsO_some R r1 hx
      exact sl_list pins s σ H _ v vl vu lo hi sl Q I rx hs pl pu ⟨a, vs, rfl, hs', hp.lstTmp R (t.cut lo hi)⟩
    · cases e

theorem je_slice {e : Expr} {lo hi : Option Expr} {f : SF} {fl fh : SO} {p2 pos : Pos} (he : JE X E e f) (hl : JO X E lo fl) (hh : JO X E hi fh) : JE X E (.Subscript e (.Slice lo hi none p2) pos) (fSl f fl fh) := by
  refine PE.weak (pe_slice (os_sl (E := E)) he hl hh) fun σ H Q ⟨ρ, M, σd, R, en, hp⟩ => ⟨ρ, M, σd, R, en, hp.bind.imp fun x M1 ρ1 H1 x1 R1 hp1 v rv => ?_⟩
  refine ⟨ρ1, M1, σd, R1, en.ext R x1, hp1.bind.imp fun l M2 ρ2 H2 x2 R2 hp2 => ?_⟩
  refine ⟨ρ2, M2, σd, R2, (en.ext R x1).ext R1 x2, hp2.bind.imp fun h M3 ρ3 H3 x3 R3 hp3 => ?_⟩
  exact ⟨ρ3, M3, x, R3, (rv.ext R1 x2).ext R2 x3, hp3⟩

/-! ### calls by values -/
def rC (K : PySem.W.Frag) (mg : Str → Option Value) (E : XK) (g : List D → Mem → Out D) : List V → Hp → VK → Prop := fun vs H Q => ∃ ρ M ds, Rep K ρ M H ∧ Dens K ρ H ds vs ∧
  Post K mg E ρ H (g ds M) fun d _ ρ' H' => ∀ v, Den K ρ' H' d v → Q v H'
def fCall (g : List D → Mem → Out D) (fa : SFs) : SF := fun σ M => (fa σ M).bind g
theorem tCB_of {g : List D → Mem → Out D} {fa : SFs} {σ : L2.St} {H : Hp} {Q : VK} (h : tE X.K X.mg E (fCall g fa) σ H Q) : tCB (rC X.K X.mg E g) (tA X.K X.mg E fa) σ H Q := by
  obtain ⟨ρ, M, σd, R, en, hp⟩ := h
  exact ⟨ρ, M, σd, R, en, hp.bind.imp fun xs M1 ρ1 H1 x1 R1 hp1 vs rvs => ⟨ρ1, M1, xs, R1, rvs, hp1⟩⟩
theorem je_callB {x : Str} {id : String} {e : Expr} {es : List Expr} {g : List D → Mem → Out D} {fa : SFs} {p pos : Pos} (hc : CallR X (.builtin id) (rC X.K X.mg E g)) (hg : Gl X x) (hm : X.mg x = none) (hv : bootBuiltins x = some (.builtin id)) (ha : JA X E (e :: es) fa)
    (hn : x ≠ "__name__" := by decide) (hdb : (x == ("__debug__" : Str)) = false := by decide) (he : starEach (e :: es) X.env = (false, eval e X.env) :: starEach es X.env := by rfl) (hpl : (backTo pos (starEach es X.env)).any (·.1) = false := by rfl) :
    JE X E (.Call (.Name x p) (e :: es) [] pos) (fCall g fa) := PE.weak (pe_callB hc hg hm hv ha hn hdb he hpl) fun σ H Q h => tCB_of h
theorem je_callTy {x : Str} {T : String} {e : Expr} {es : List Expr} {g : List D → Mem → Out D} {fa : SFs} {p pos : Pos} (hc : CallR X (.type T) (rC X.K X.mg E g)) (hg : Gl X x) (hm : X.mg x = none) (hv : bootBuiltins x = some (.type T)) (ha : JA X E (e :: es) fa)
    (hn : x ≠ "__name__" := by decide) (hdb : (x == ("__debug__" : Str)) = false := by decide) (he : starEach (e :: es) X.env = (false, eval e X.env) :: starEach es X.env := by rfl) (hpl : (backTo pos (starEach es X.env)).any (·.1) = false := by rfl) :
    JE X E (.Call (.Name x p) (e :: es) [] pos) (fCall g fa) := PE.weak (pe_callTy hc hg hm hv ha hn hdb he hpl) fun σ H Q h => tCB_of h
/-- pure ones -/
def pureC (f : List D → Mem → Option D) : List D → Mem → Out D := fun ds M => optO (f ds M) fun d => .ok d M
theorem dens1 {K : PySem.W.Frag} {ρ : Nu} {H : Hp} {d : D} {vs : List V} (h : Dens K ρ H [d] vs) : ∃ v, vs = [v] ∧ Den K ρ H d v := by
  cases h with
  | cons r t => cases t; exact ⟨_, rfl, r⟩
theorem dens2 {K : PySem.W.Frag} {ρ : Nu} {H : Hp} {d e : D} {vs : List V} (h : Dens K ρ H [d, e] vs) : ∃ v w, vs = [v, w] ∧ Den K ρ H d v ∧ Den K ρ H e w := by
  cases h with
  | cons r t =>
    obtain ⟨w, rfl, r2⟩ := dens1 t
    exact ⟨_, _, rfl, r, r2⟩

def cLen : List D → Mem → Option D := fun ds M => match ds with
  | [.str z] => if z.length ≤ 16777216 then some (.int z.length) else none
  | [.ref n] => match M[n]? with
    | some (.lst xs) => some (.int xs.length)
    | _ => none
  | [x] => match seqO x M with
    | some xs => some (.int xs.length)
    | none => none
  | _ => none
theorem oc_len : CallR X (.builtin "len") (rC X.K X.mg E (pureC cLen)) := by
  intro pins s σ H xs us Q I r h
  obtain ⟨ρ, M, ds, R, rd, hp⟩ := h
  obtain ⟨d, e, hp⟩ := optO_post hp
  unfold cLen at e
  split at e
  · rename_i z
    obtain ⟨v, rfl, r1⟩ := dens1 rd
    cases r1
    split at e
    · rename_i hz
      cases e
      refine call_len_str pins s σ H _ us Q I r ⟨_, rfl, by show z.toArray.size ≤ sizeLine; simpa [sizeLine] using hz, ?_⟩
      show Q (.int (z.toArray.size : Nat)) H
      rw [List.size_toArray]
      exact hp.here R _ (.int _)
    · cases e
  · obtain ⟨v, rfl, r1⟩ := dens1 rd
    cases r1 with
    | ref hr =>
      split at e
      · rename_i xs hx
        cases e
        obtain ⟨vs, h1, t⟩ := R.obj _ _ _ hr hx
        exact call_len_seq pins s σ H _ us Q I r ⟨_, vs, rfl, .inl (.of h1), by rw [← t.length]; exact hp.here R _ (.int _)⟩
      · cases e
  · obtain ⟨v, rfl, r1⟩ := dens1 rd
    split at e
    · rename_i xs hx
      cases e
      obtain ⟨a, vs, rfl, hs, t⟩ := seqO_some R r1 hx
      exact call_len_seq pins s σ H _ us Q I r ⟨a, vs, rfl, hs.imp id SqD.sq, by rw [← t.length]; exact hp.here R _ (.int _)⟩
    · cases e
  · cases e
/-- what type a value has -/
def tyO (d : D) (M : Mem) : Option String := match d with
  | .non => some "NoneType"
  | .bl _ => some "bool"
  | .int _ => some "int"
  | .str _ => some "str"
  | .tup _ => some "tuple"
  | .lst _ => some "list"
  | .fl _ => some "list"
  | .ref n => match M[n]? with
    | some (.lst _) => some "list"
    | some (.dct _) => some "dict"
    | some (.dtt _) => some "dict"
    | _ => none
  | .ty _ => none
def isSub (a b : String) : Option Bool :=
  if (a == "int" || a == "bool" || a == "str" || a == "tuple" || a == "list" || a == "dict" || a == "NoneType") && (b == "int" || b == "bool" || b == "str" || b == "tuple" || b == "list" || b == "dict") then some (a == b || (a == "bool" && b == "int")) else none
theorem isSub_kit {a b : String} {r : Bool} (h : isSub a b = some r) : kitB a b = some r := by
  unfold isSub at h
  split at h
  · rename_i hc
    rw [Bool.and_eq_true] at hc
    obtain ⟨h1, h2⟩ := hc
    simp only [Bool.or_eq_true, beq_iff_eq] at h1 h2
    cases h
    rcases h1 with (((((h1 | h1) | h1) | h1) | h1) | h1) | h1 <;> rcases h2 with ((((h2 | h2) | h2) | h2) | h2) | h2 <;> subst h1 h2 <;> decide +kernel
  · cases h
theorem tyO_ok {K : PySem.W.Frag} {ρ : Nu} {M : Mem} {H : Hp} {d : D} {v : V} {t : String} (R : Rep K ρ M H) (r : Den K ρ H d v) (h : tyO d M = some t) : TyX K H v (.type t) := by
  cases r with
  | non => cases h; exact .base .non
  | bl b => cases h; exact .base (.bl b)
  | int i => cases h; exact .base (.int i)
  | str x => cases h; exact .base (.str _)
  | tup hs t =>
    cases h
    rcases hs.sq with hs | ⟨o, its, n, h1, h2, _⟩
    · rcases hs with hs | ⟨o, hs⟩
      · exact .base (.tup hs)
      · exact .fTuple hs
    · exact .kTuple h1 h2
  | lst h1 h2 hs t => cases h; exact .base (.lst hs)
  | fl hs t =>
    cases h
    rcases hs with ⟨o, hs⟩ | ⟨o, its, n, h1, h2, _⟩
    · exact .base (.frz hs)
    · exact .kList h1 h2
  | ref hr =>
    unfold tyO at h
    dsimp only at h
    split at h
    · rename_i xs e
      cases h
      obtain ⟨vs, h1, t⟩ := R.obj _ _ _ hr e
      exact .base (.lst h1)
    · rename_i kvs e
      cases h
      obtain ⟨vs, h1, _⟩ := R.obj _ _ _ hr e
      exact .base (.dK h1)
    · rename_i kvs e
      cases h
      obtain ⟨vs, h1, _⟩ := R.obj _ _ _ hr e
      exact .base (.dT h1)
    · cases h
  | ty n => cases h
def cIsi : List D → Mem → Option D := fun ds M => match ds with
  | [x, .ty T] => match tyO x M with
    | some t => match isSub t T with
      | some b => some (.bl b)
      | none => none
    | none => none
  | _ => none
theorem oc_isi : CallR X (.builtin "isinstance") (rC X.K X.mg E (pureC cIsi)) := by
  intro pins s σ H xs us Q I r h
  obtain ⟨ρ, M, ds, R, rd, hp⟩ := h
  obtain ⟨d, e, hp⟩ := optO_post hp
  unfold cIsi at e
  split at e
  · obtain ⟨v, w, rfl, r1, r2⟩ := dens2 rd
    cases r2
    split at e
    · rename_i t ht
      split at e
      · rename_i b hb
        cases e
        exact call_isi pins s σ H _ us Q I r ⟨v, _, _, _, b, rfl, .ty _, tyO_ok R r1 ht, kit_ty (isSub_kit hb), hp.here R _ (.bl b)⟩
      · cases e
    · cases e
  · cases e
/-- a built-in type's name, handed on -/
theorem je_ty {x : Str} {T : String} {pos : Pos} (hg : Gl X x) (hm : X.mg x = none) (hv : bootBuiltins x = some (.type T)) (hn : x ≠ "__name__" := by decide) (hd : (x == ("__debug__" : Str)) = false := by decide) : JE X E (.Name x pos) (fC (.ty T)) :=
  je_c (v := .ty T) (pe_bltn hg hm hv rfl hn hd) fun _ _ => .ty T
def cInt : List D → Mem → Option D := fun ds _ => match ds with
  | [.int i] => some (.int i)
  | [.bl b] => some (.int (if b then 1 else 0))
  | _ => none
theorem oc_int : CallR X (.type "int") (rC X.K X.mg E (pureC cInt)) := by
  intro pins s σ H xs us Q I r h
  obtain ⟨ρ, M, ds, R, rd, hp⟩ := h
  obtain ⟨d, e, hp⟩ := optO_post hp
  unfold cInt at e
  split at e
  · obtain ⟨v, rfl, r1⟩ := dens1 rd
    cases r1; cases e
    exact call_int1 pins s σ H _ us Q I r (.inl ⟨_, rfl, hp.here R _ (.int _)⟩)
  · obtain ⟨v, rfl, r1⟩ := dens1 rd
    cases r1; cases e
    exact call_int1 pins s σ H _ us Q I r (.inr ⟨_, rfl, hp.here R _ (.int _)⟩)
  · cases e
def cAbs : List D → Mem → Option D := fun ds _ => match ds with
  | [.int i] => some (.int (if i < 0 then -i else i))
  | _ => none
theorem oc_abs : CallR X (.builtin "abs") (rC X.K X.mg E (pureC cAbs)) := by
  intro pins s σ H xs us Q I r h
  obtain ⟨ρ, M, ds, R, rd, hp⟩ := h
  obtain ⟨d, e, hp⟩ := optO_post hp
  unfold cAbs at e
  split at e
  · obtain ⟨v, rfl, r1⟩ := dens1 rd
    cases r1; cases e
    exact call_abs pins s σ H _ us Q I r ⟨_, rfl, hp.here R _ (.int _)⟩
  · cases e
/-- the greatest, the least of ints -/
def maxI : Int → List Int → Int
  | m, [] => m
  | m, x :: xs => maxI (if x > m then x else m) xs
def minI : Int → List Int → Int
  | m, [] => m
  | m, x :: xs => minI (if x < m then x else m) xs
theorem maxI_le : ∀ (xs : List Int) (m : Int), m ≤ maxI m xs ∧ (∀ y ∈ xs, y ≤ maxI m xs) ∧ (maxI m xs = m ∨ maxI m xs ∈ xs)
  | [], m => ⟨Int.le_refl _, by simp, .inl rfl⟩
  | x :: xs, m => by
    unfold maxI
    by_cases h : x > m
    · rw [if_pos h]
      obtain ⟨h1, h2, h3⟩ := maxI_le xs x
      refine ⟨by omega, fun y hy => ?_, .inr ?_⟩
      · rcases List.mem_cons.mp hy with rfl | hy
        · exact h1
        · exact h2 y hy
      · rcases h3 with h3 | h3
        · rw [h3]; exact List.mem_cons_self
        · exact List.mem_cons_of_mem _ h3
    · rw [if_neg h]
      obtain ⟨h1, h2, h3⟩ := maxI_le xs m
      refine ⟨h1, fun y hy => ?_, ?_⟩
      · rcases List.mem_cons.mp hy with rfl | hy
        · omega
        · exact h2 y hy
      · rcases h3 with h3 | h3
        · exact .inl h3
        · exact .inr (List.mem_cons_of_mem _ h3)
theorem minI_le : ∀ (xs : List Int) (m : Int), minI m xs ≤ m ∧ (∀ y ∈ xs, minI m xs ≤ y) ∧ (minI m xs = m ∨ minI m xs ∈ xs)
  | [], m => ⟨Int.le_refl _, by simp, .inl rfl⟩
  | x :: xs, m => by
    unfold minI
    by_cases h : x < m
    · rw [if_pos h]
      obtain ⟨h1, h2, h3⟩ := minI_le xs x
      refine ⟨by omega, fun y hy => ?_, .inr ?_⟩
      · rcases List.mem_cons.mp hy with rfl | hy
        · exact h1
        · exact h2 y hy
      · rcases h3 with h3 | h3
        · rw [h3]; exact List.mem_cons_self
        · exact List.mem_cons_of_mem _ h3
    · rw [if_neg h]
      obtain ⟨h1, h2, h3⟩ := minI_le xs m
      refine ⟨h1, fun y hy => ?_, ?_⟩
      · rcases List.mem_cons.mp hy with rfl | hy
        · omega
        · exact h2 y hy
      · rcases h3 with h3 | h3
        · exact .inl h3
        · exact .inr (List.mem_cons_of_mem _ h3)
def cMax : List D → Mem → Option D := fun ds M => match ds with
  | [.int i, .int j] => some (.int (if j > i then j else i))
  | [x] => match lsO x M with
    | some xs => match intsO xs with
      | some (i :: is) => some (.int (maxI i is))
      | _ => none
    | none => none
  | _ => none
def cMin : List D → Mem → Option D := fun ds M => match ds with
  | [.int i, .int j] => some (.int (if j < i then j else i))
  | [x] => match lsO x M with
    | some xs => match intsO xs with
      | some (i :: is) => some (.int (minI i is))
      | _ => none
    | none => none
  | _ => none
theorem oc_max (hc : X.calm = true) : CallR X (.builtin "max") (rC X.K X.mg E (pureC cMax)) := by
  intro pins s σ H xs us Q I r h
  obtain ⟨ρ, M, ds, R, rd, hp⟩ := h
  obtain ⟨d, e, hp⟩ := optO_post hp
  unfold cMax at e
  split at e
  · obtain ⟨v, w, rfl, r1, r2⟩ := dens2 rd
    cases r1; cases r2; cases e
    exact call_max2 hc pins s σ H _ us Q I r ⟨_, _, rfl, hp.here R _ (.int _)⟩
  · obtain ⟨v, rfl, r1⟩ := dens1 rd
    split at e
    · rename_i xs hx
      split at e
      · rename_i i is hi
        cases e
        obtain ⟨a, vs, rfl, hs, t⟩ := lsO_some R r1 hx
        rw [intsO_map t hi] at hs
        refine cr_max hc pins s σ H _ us Q I r ⟨a, i :: is, rfl, hs, by simp, fun m hm hm2 => ?_⟩
        obtain ⟨k1, k2, k3⟩ := maxI_le is i
        have : m = maxI i is := by
          apply Int.le_antisymm
          · rcases List.mem_cons.mp hm with rfl | hm
            · exact k1
            · exact k2 m hm
          · rcases k3 with k3 | k3
            · rw [k3]; exact hm2 i List.mem_cons_self
            · exact hm2 _ (List.mem_cons_of_mem _ k3)
        rw [this]
        exact hp.here R _ (.int _)
      · cases e
    · cases e
  · cases e
theorem oc_min (hc : X.calm = true) : CallR X (.builtin "min") (rC X.K X.mg E (pureC cMin)) := by
  intro pins s σ H xs us Q I r h
  obtain ⟨ρ, M, ds, R, rd, hp⟩ := h
  obtain ⟨d, e, hp⟩ := optO_post hp
  unfold cMin at e
  split at e
  · obtain ⟨v, w, rfl, r1, r2⟩ := dens2 rd
    cases r1; cases r2; cases e
    exact call_min2 hc pins s σ H _ us Q I r ⟨_, _, rfl, hp.here R _ (.int _)⟩
  · obtain ⟨v, rfl, r1⟩ := dens1 rd
    split at e
    · rename_i xs hx
      split at e
      · rename_i i is hi
        cases e
        obtain ⟨a, vs, rfl, hs, t⟩ := lsO_some R r1 hx
        rw [intsO_map t hi] at hs
        refine cr_min hc pins s σ H _ us Q I r ⟨a, i :: is, rfl, hs, by simp, fun m hm hm2 => ?_⟩
        obtain ⟨k1, k2, k3⟩ := minI_le is i
        have : m = minI i is := by
          apply Int.le_antisymm
          · rcases k3 with k3 | k3
            · rw [k3]; exact hm2 i List.mem_cons_self
            · exact hm2 _ (List.mem_cons_of_mem _ k3)
          · rcases List.mem_cons.mp hm with rfl | hm
            · exact k1
            · exact k2 m hm
        rw [this]
        exact hp.here R _ (.int _)
      · cases e
    · cases e
  · cases e
def blsO : List D → Option (List Bool)
  | [] => some []
  | .bl b :: r => match blsO r with
    | some bs => some (b :: bs)
    | none => none
  | _ :: _ => none
theorem blsO_map {K : PySem.W.Frag} {ρ : Nu} {H : Hp} : ∀ {ds : List D} {vs : List V} {bs : List Bool}, Dens K ρ H ds vs → blsO ds = some bs → vs = bs.map V.bl
  | _, _, _, .nil, h => by cases h; rfl
  | d :: ds, _, bs, .cons r t, h => by
    cases r with
    | bl b =>
      unfold blsO at h
      split at h
      · rename_i bs' e; cases h; rw [List.map_cons, blsO_map t e]
      · cases h
    | _ => cases h
def cAll : List D → Mem → Option D := fun ds M => match ds with
  | [x] => match lsO x M with
    | some xs => match blsO xs with
      | some bs => some (.bl (bs.all id))
      | none => none
    | none => none
  | _ => none
def cAny : List D → Mem → Option D := fun ds M => match ds with
  | [x] => match lsO x M with
    | some xs => match blsO xs with
      | some bs => some (.bl (bs.any id))
      | none => none
    | none => none
  | _ => none
theorem oc_all (hc : X.calm = true) : CallR X (.builtin "all") (rC X.K X.mg E (pureC cAll)) := by
  intro pins s σ H xs us Q I r h
  obtain ⟨ρ, M, ds, R, rd, hp⟩ := h
  obtain ⟨d, e, hp⟩ := optO_post hp
  unfold cAll at e
  split at e
  · obtain ⟨v, rfl, r1⟩ := dens1 rd
    split at e
    · rename_i xs hx
      split at e
      · rename_i bs hb
        cases e
        obtain ⟨a, vs, rfl, hs, t⟩ := lsO_some R r1 hx
        rw [blsO_map t hb] at hs
        exact cr_all hc pins s σ H _ us Q I r ⟨a, bs, rfl, hs, hp.here R _ (.bl _)⟩
      · cases e
    · cases e
  · cases e
theorem oc_any (hc : X.calm = true) : CallR X (.builtin "any") (rC X.K X.mg E (pureC cAny)) := by
  intro pins s σ H xs us Q I r h
  obtain ⟨ρ, M, ds, R, rd, hp⟩ := h
  obtain ⟨d, e, hp⟩ := optO_post hp
  unfold cAny at e
  split at e
  · obtain ⟨v, rfl, r1⟩ := dens1 rd
    split at e
    · rename_i xs hx
      split at e
      · rename_i bs hb
        cases e
        obtain ⟨a, vs, rfl, hs, t⟩ := lsO_some R r1 hx
        rw [blsO_map t hb] at hs
        exact cr_any hc pins s σ H _ us Q I r ⟨a, bs, rfl, hs, hp.here R _ (.bl _)⟩
      · cases e
    · cases e
  · cases e
def cSum : List D → Mem → Option D := fun ds M => match ds with
  | [x] => match lsO x M with
    | some xs => match intsO xs with
      | some is => some (.int is.sum)
      | none => none
    | none => none
  | _ => none
theorem oc_sum (hc : X.calm = true) : CallR X (.builtin "sum") (rC X.K X.mg E (pureC cSum)) := by
  intro pins s σ H xs us Q I r h
  obtain ⟨ρ, M, ds, R, rd, hp⟩ := h
  obtain ⟨d, e, hp⟩ := optO_post hp
  unfold cSum at e
  split at e
  · obtain ⟨v, rfl, r1⟩ := dens1 rd
    split at e
    · rename_i xs hx
      split at e
      · rename_i is hi
        cases e
        obtain ⟨a, vs, rfl, hs, t⟩ := lsO_some R r1 hx
        rw [intsO_map t hi] at hs
        exact cr_sum hc pins s σ H _ us Q I r ⟨a, is, rfl, hs, hp.here R _ (.int _)⟩
      · cases e
    · cases e
  · cases e
/-- list(x), tuple(x) of lists and tuples -/
def cList : List D → Mem → Out D := fun ds M => match ds with
  | [x] => optO (seqO x M) fun xs => .ok (.lst xs) M
  | _ => .bad
def cListN : List D → Mem → Out D := fun ds M => match ds with
  | [x] => optO (seqO x M) fun xs => .ok (.ref M.length) (M ++ [.lst xs])
  | _ => .bad
def cTuple : List D → Mem → Out D := fun ds M => match ds with
  | [x] => optO (seqO x M) fun xs => .ok (.tup xs) M
  | _ => .bad
theorem oc_list : CallR X (.type "list") (rC X.K X.mg E cList) := by
  intro pins s σ H xs us Q I r h
  obtain ⟨ρ, M, ds, R, rd, hp⟩ := h
  unfold cList at hp
  split at hp
  · obtain ⟨v, rfl, r1⟩ := dens1 rd
    obtain ⟨xs, e, hp⟩ := optO_post hp
    obtain ⟨a, vs, rfl, hs, t⟩ := seqO_some R r1 e
    exact call_list_of pins s σ H _ us Q I r ⟨a, vs, rfl, hs.imp id SqD.sq, hp.lstTmp R t⟩
  · exact hp.elim
theorem oc_listN : CallR X (.type "list") (rC X.K X.mg E cListN) := by
  intro pins s σ H xs us Q I r h
  obtain ⟨ρ, M, ds, R, rd, hp⟩ := h
  unfold cListN at hp
  split at hp
  · obtain ⟨v, rfl, r1⟩ := dens1 rd
    obtain ⟨xs, e, hp⟩ := optO_post hp
    obtain ⟨a, vs, rfl, hs, t⟩ := seqO_some R r1 e
    exact call_list_of pins s σ H _ us Q I r ⟨a, vs, rfl, hs.imp id SqD.sq, hp.lstNew R t⟩
  · exact hp.elim
theorem oc_tuple : CallR X (.type "tuple") (rC X.K X.mg E cTuple) := by
  intro pins s σ H xs us Q I r h
  obtain ⟨ρ, M, ds, R, rd, hp⟩ := h
  unfold cTuple at hp
  split at hp
  · obtain ⟨v, rfl, r1⟩ := dens1 rd
    obtain ⟨xs, e, hp⟩ := optO_post hp
    obtain ⟨a, vs, rfl, hs, t⟩ := seqO_some R r1 e
    rcases hs with hs | hs
    · exact call_tuple_of pins s σ H _ us Q I r ⟨a, vs, rfl, .inl ⟨hs, hp.tupNew R t⟩⟩
    · exact call_tuple_of pins s σ H _ us Q I r ⟨a, vs, rfl, .inr ⟨hs.sq, hp.here R _ (.tup hs t)⟩⟩
  · exact hp.elim
def cDivmod : List D → Mem → Out D := fun ds M => match ds with
  | [.int i, .int j] => if 0 < j ∧ (j < 1073741824 ∨ j.natAbs.log2 < 9000) then .ok (.tup [.int (i / j), .int (i % j)]) M else .bad
  | _ => .bad
theorem divP_log {i j : Int} (h : 0 < j ∧ (j < 1073741824 ∨ j.natAbs.log2 < 9000)) : CDivP i j := by
  have hl : j.natAbs.log2 < 9000 := by
    rcases h.2 with h2 | h2
    · by_cases hj : j.natAbs = 0
      · rw [hj]; decide
      · have := (Nat.log2_lt hj (k := 30)).mpr (by omega)
        omega
    · exact h2
  refine ⟨h.1, ?_⟩
  show (decide ((if j == 0 then 0 else j.natAbs.log2 / 30 + 1) > 300) && decide ((if i == 0 then 0 else i.natAbs.log2 / 30 + 1) > (if j == 0 then 0 else j.natAbs.log2 / 30 + 1) + 150)) = false
  have : decide ((if j == 0 then 0 else j.natAbs.log2 / 30 + 1) > 300) = false := by
    refine decide_eq_false ?_
    split <;> omega
  rw [this]; rfl
theorem oc_divmod : CallR X (.builtin "divmod") (rC X.K X.mg E cDivmod) := by
  intro pins s σ H xs us Q I r h
  obtain ⟨ρ, M, ds, R, rd, hp⟩ := h
  unfold cDivmod at hp
  split at hp
  · obtain ⟨v, w, rfl, r1, r2⟩ := dens2 rd
    cases r1; cases r2
    split at hp
    · rename_i hl
      exact call_divmodW pins s σ H _ us Q I r ⟨_, _, rfl, divP_log hl, hp.tupNew R (.cons (.int _) (.cons (.int _) .nil))⟩
    · exact hp.elim
  · exact hp.elim
end
end KP

/-! statements, targets, loops, comprehensions, defs -/
namespace KP
open PySem PySem.Spec PyProof.Rows L2

/-! ### statements -/
section
variable {X : Cx} {E : XK}
def sNil : SS := fun σ M => .ok (.nx σ) M
def sSeq (f g : SS) : SS := fun σ M => (f σ M).bind fun fl M1 => match fl with
  | .nx σ1 => g σ1 M1
  | fl => .ok fl M1
theorem jss_nil : JSs X E [] sNil := PSs.weak pss_nil fun D σ H ⟨ρ, M, σd, R, en, hp⟩ => hp.here R σ en
theorem jss_one {st : Stmt} {f : SS} (h : JS X E st f) : JSs X E [st] f := pss_one h
theorem jss_cons {st : Stmt} {rest : List Stmt} {f g : SS} (h : JS X E st f) (h2 : JSs X E rest g) : JSs X E (st :: rest) (sSeq f g) := by
  refine PSs.weak (pss_cons h h2) fun D σ H ⟨ρ, M, σd, R, en, hp⟩ => ⟨ρ, M, σd, R, en, hp.bind.imp fun fl M1 ρ1 H1 x1 R1 hp1 => ?_⟩
  cases fl with
  | nx σ1 => exact fun σ' en' => ⟨ρ1, M1, σ1, R1, en', hp1⟩
  | rt d => exact hp1.here R1
  | bk σ1 => exact hp1.here R1
  | ct σ1 => exact hp1.here R1
def sExpr (f : SF) : SS := fun σ M => (f σ M).bind fun _ M1 => .ok (.nx σ) M1
theorem js_expr {e : Expr} {f : SF} {pos : Pos} (h : JE X E e f) (hs : swapsWith e none pos.line X.env = pure false := by rfl) : JS X E (.Expr e pos) (sExpr f) := by
  refine PS.weak (ps_expr h hs) fun D σ H ⟨ρ, M, σd, R, en, hp⟩ => ⟨ρ, M, σd, R, en, hp.bind.imp fun d M1 ρ1 H1 x1 R1 hp1 v rv => ?_⟩
  exact hp1.here R1 σ (en.ext R x1)
def sRet (f : SF) : SS := fun σ M => (f σ M).bind fun d M1 => .ok (.rt d) M1
theorem js_ret {e : Expr} {f : SF} {pos : Pos} (h : JE X E e f) : JS X E (.Return (some e) pos) (sRet f) := by
  refine PS.weak (ps_ret h) fun D σ H ⟨ρ, M, σd, R, en, hp⟩ => ⟨ρ, M, σd, R, en, hp.bind.imp fun d M1 ρ1 H1 x1 R1 hp1 v rv => ?_⟩
  exact hp1.here R1 v rv
def sRetN : SS := fun _ M => .ok (.rt .non) M
theorem js_retN {pos : Pos} : JS X E (.Return none pos) sRetN := PS.weak ps_retN fun D σ H ⟨ρ, M, σd, R, en, hp⟩ => hp.here R _ .non
def sIf (c : SB) (f g : SS) : SS := fun σ M => (c σ M).bind fun b M1 => match b with
  | true => f σ M1
  | false => g σ M1
theorem js_if {c : Expr} {a b : List Stmt} {fc : SB} {f g : SS} {pos : Pos} (hc : JT X E c fc) (ha : JSs X E a f) (hb : JSs X E b g) : JS X E (.If c a b pos) (sIf fc f g) := by
  refine PS.weak (ps_if hc ha hb) fun D σ H ⟨ρ, M, σd, R, en, hp⟩ => ⟨ρ, M, σd, R, en, hp.bind.imp fun b M1 ρ1 H1 x1 R1 hp1 => ?_⟩
  cases b with
  | true => exact ⟨ρ1, M1, σd, R1, en.ext R x1, hp1⟩
  | false => exact ⟨ρ1, M1, σd, R1, en.ext R x1, hp1⟩
def sPass : SS := sNil
theorem js_pass {pos : Pos} : JS X E (.Pass pos) sNil := PS.weak ps_pass fun D σ H ⟨ρ, M, σd, R, en, hp⟩ => hp.here R σ en
def sBreak : SS := fun σ M => .ok (.bk σ) M
def sCont : SS := fun σ M => .ok (.ct σ) M
theorem js_break {pos : Pos} : JS X E (.Break pos) sBreak := PS.weak ps_break fun D σ H ⟨ρ, M, σd, R, en, hp⟩ => hp.here R σ en
theorem js_continue {pos : Pos} : JS X E (.Continue pos) sCont := PS.weak ps_continue fun D σ H ⟨ρ, M, σd, R, en, hp⟩ => hp.here R σ en
/-- what is not to be reached -/
def sNever : SS := fun _ _ => .bad
theorem js_never {st : Stmt} : JS X E st sNever := PS.weak ps_never fun D σ H ⟨ρ, M, σd, R, en, hp⟩ => hp.elim

/-! ### targets -/
abbrev SG := D → SD → Mem → Out SD
/-- two states of the slots that differ at vs at most -/
def Off (vs : List Nat) (σ σ' : L2.St) : Prop := σ'.length = σ.length ∧ ∀ i, i ∉ vs → σ'[i]? = σ[i]?
theorem Off.refl {vs : List Nat} {σ : L2.St} : Off vs σ σ := ⟨rfl, fun _ _ => rfl⟩
/-- the slots at vs may change -/
def tG (K : PySem.W.Frag) (mg : Str → Option Value) (E : XK) (vs : List Nat) (g : SG) : TG := fun v σ H Q => ∃ ρ M σd d, Rep K ρ M H ∧ EnvD K ρ H σd σ ∧ Den K ρ H d v ∧
  Post K mg E ρ H (g d σd M) fun σd' _ ρ' H' => ∀ σ', EnvD K ρ' H' σd' σ' → Off vs σ σ' → Q σ' H'
abbrev JG (X : Cx) (E : XK) (vs : List Nat) (e : Expr) (g : SG) : Prop := PG X e (tG X.K X.mg E vs g)
theorem PG.weak {X : Cx} {e : Expr} {t t' : TG} (h : PG X e t) (w : ∀ v σ H Q, t' v σ H Q → t v σ H Q) : PG X e t' := ⟨fun pins s σ H v u Q I r q => h.run pins s σ H v u Q I r (w v σ H Q q)⟩
def gSet (i : Nat) : SG := fun d σ M => .ok (σ.set i (some d)) M
theorem jg_name {i : Nat} {x : Str} {pos : Pos} (hN : X.N.Nodup) (hi : X.N[i]? = some x) (hx : Loc X.env.scope x) (hf : X.fn x = true ∨ X.env.scope.names.lookup x = some .local := by first | exact .inl rfl | exact .inr rfl | assumption) : JG X E [i] (.Name x pos) (gSet i) := by
  refine PG.weak (pg_name hN hi hx hf) fun v σ H Q ⟨ρ, M, σd, d, R, en, rd, hp⟩ => ?_
  exact hp.here R _ (en.set i rd) ⟨by simp, fun j hj => List.getElem?_set_ne (fun z => hj (by simp [z]))⟩
def tGs (K : PySem.W.Frag) (mg : Str → Option Value) (E : XK) (vs : List Nat) (g : List D → SD → Mem → Out SD) : TGs := fun us σ H Q => ∃ ρ M σd ds, Rep K ρ M H ∧ EnvD K ρ H σd σ ∧ Dens K ρ H ds us ∧
  Post K mg E ρ H (g ds σd M) fun σd' _ ρ' H' => ∀ σ', EnvD K ρ' H' σd' σ' → Off vs σ σ' → Q σ' H'
abbrev JGs (X : Cx) (E : XK) (vs : List Nat) (es : List Expr) (g : List D → SD → Mem → Out SD) : Prop := PGs X es (tGs X.K X.mg E vs g)
theorem PGs.weak {X : Cx} {e : List Expr} {t t' : TGs} (h : PGs X e t) (w : ∀ v σ H Q, t' v σ H Q → t v σ H Q) : PGs X e t' := ⟨fun pins s σ H v u Q I r q => h.run pins s σ H v u Q I r (w v σ H Q q)⟩
def gsNil : List D → SD → Mem → Out SD := fun ds σ M => match ds with
  | [] => .ok σ M
  | _ => .bad
def gsCons (g : SG) (gs : List D → SD → Mem → Out SD) : List D → SD → Mem → Out SD := fun ds σ M => match ds with
  | d :: ds => (g d σ M).bind fun σ1 M1 => gs ds σ1 M1
  | [] => .bad
theorem jgs_nil : JGs X E [] [] gsNil := by
  refine PGs.weak pgs_nil fun us σ H Q ⟨ρ, M, σd, ds, R, en, rd, hp⟩ => ?_
  cases rd with
  | nil => exact ⟨rfl, hp.here R σ en .refl⟩
  | cons _ _ => exact hp.elim
theorem jgs_cons {v1 v2 : List Nat} {e : Expr} {es : List Expr} {g : SG} {gs : List D → SD → Mem → Out SD} (h : JG X E v1 e g) (h2 : JGs X E v2 es gs) (hs : (assignEach (e :: es) X.env).map (·.2) = assign e X.env :: (assignEach es X.env).map (·.2) := by rfl) :
    JGs X E (v1 ++ v2) (e :: es) (gsCons g gs) := by
  refine PGs.weak (pgs_cons h h2 hs) fun us σ H Q ⟨ρ, M, σd, ds, R, en, rd, hp⟩ => ?_
  cases rd with
  | nil => exact hp.elim
  | cons r t =>
    refine ⟨_, _, rfl, ρ, M, σd, _, R, en, r, hp.bind.imp fun σ1 M1 ρ1 H1 x1 R1 hp1 σ' en' he' => ?_⟩
    refine ⟨ρ1, M1, σ1, _, R1, en', t.ext R x1, hp1.imp fun σ2 M2 ρ2 H2 x2 R2 hp2 σ'' en'' he'' => hp2 σ'' en'' ⟨he''.1.trans he'.1, fun i hi => ?_⟩⟩
    simp only [List.mem_append, not_or] at hi
    rw [he''.2 i hi.2, he'.2 i hi.1]
def gTup (n : Nat) (gs : List D → SD → Mem → Out SD) : SG := fun d σ M => match d with
  | .tup xs => if xs.length = n then gs xs σ M else .bad
  | _ => .bad
theorem jg_tup {vs : List Nat} {es : List Expr} {k : Nat} {gs : List D → SD → Mem → Out SD} {n : Nat} {pos : Pos} (hc : X.calm = true) (h : JGs X E vs es gs)
    (hn : (assignEach es X.env).length = n := by rfl) (hst : (assignEach es X.env).findIdx? (·.1) = none := by rfl) : JG X E vs (.Tuple es k pos) (gTup n gs) := by
  refine PG.weak (pg_tup hc h hn hst) fun v σ H Q ⟨ρ, M, σd, d, R, en, rd, hp⟩ => ?_
  cases rd with
  | tup hs t =>
    unfold gTup at hp
    dsimp only at hp
    split at hp
    · rename_i hl
      exact ⟨_, _, rfl, hs, by rw [← t.length]; exact hl, ρ, M, σd, _, R, en, t, hp⟩
    · exact hp.elim
  | _ => exact hp.elim
/-- o[i] = v, a numbered list -/
def setO (o i v : D) (M : Mem) : Option Mem := match o, i with
  | .ref n, .int k => match M[n]? with
    | some (.lst xs) => match ixN xs.length k with
      | some j => some (M.set n (.lst (xs.set j v)))
      | none => none
    | _ => none
  | _, _ => none
def gSub (fo fi : SF) : SG := fun d σ M => (fo σ M).bind fun o M1 => (fi σ M1).bind fun i M2 => match setO o i d M2 with
  | some M3 => .ok σ M3
  | none => .bad
theorem os_set : PSet X (fun o i v H Q => ∃ ρ M d1 d2 d3, Rep X.K ρ M H ∧ Den X.K ρ H d1 o ∧ Den X.K ρ H d2 i ∧ Den X.K ρ H d3 v ∧ ∃ M', setO d1 d2 d3 M = some M' ∧ ∀ ρ' H', Ext ρ H ρ' H' → Rep X.K ρ' M' H' → Q H') := by
  intro pins s σ H o i v ov iv u Q I ro ri rv h
  obtain ⟨ρ, M, d1, d2, d3, R, r1, r2, r3, M', e, q⟩ := h
  unfold setO at e
  split at e
  · cases r1 with
    | ref hr =>
      cases r2
      split at e
      · rename_i xs hx
        split at e
        · rename_i j hj
          cases e
          obtain ⟨vs, h1, t⟩ := R.obj _ _ _ hr hx
          refine set_list pins s σ H _ _ v ov iv u Q I ro ri rv ⟨_, vs, _, j, rfl, rfl, h1, by rw [← t.length]; exact hj, ?_⟩
          have x : Ext ρ H ρ (upd H _ (.lst (vs.set j v))) := .write (List.mem_of_getElem? hr) (nfz h1)
          exact q ρ _ x (R.write hr (nfz h1) ⟨_, upd_same, (t.set j r3).ext R x⟩)
        · cases e
      · cases e
  · cases e
theorem jg_sub {o i : Expr} {fo fi : SF} {pos : Pos} (ho : JE X E o fo) (hi : JE X E i fi) (ha : ∀ v, assign (.Subscript o i pos) X.env v = (do
      let ov ← holding [v] (eval o X.env)
      let iv ← holding [v, ov] (eval i X.env)
      standAt pos
      holding [v, ov, iv] (setItem ov iv v)
      release [v, ov, iv] []) := by intro _; rfl) : JG X E [] (.Subscript o i pos) (gSub fo fi) := by
  refine PG.weak (pg_sub ho hi os_set ha) fun v σ H Q ⟨ρ, M, σd, d, R, en, rd, hp⟩ => ?_
  refine ⟨ρ, M, σd, R, en, hp.bind.imp fun o' M1 ρ1 H1 x1 R1 hp1 ov ro => ?_⟩
  refine ⟨ρ1, M1, σd, R1, en.ext R x1, hp1.bind.imp fun i' M2 ρ2 H2 x2 R2 hp2 iv ri => ?_⟩
  refine ⟨ρ2, M2, o', i', d, R2, ro.ext R1 x2, ri, (rd.ext R x1).ext R1 x2, ?_⟩
  split at hp2
  · rename_i M3 e
    refine ⟨M3, e, fun ρ' H' x R' => hp2 ρ' H' x R' σ (((en.ext R x1).ext R1 x2).ext R2 x) .refl⟩
  · exact hp2.elim
def sAsg (f : SF) (g : SG) : SS := fun σ M => (f σ M).bind fun d M1 => (g d σ M1).bind fun σ' M2 => .ok (.nx σ') M2
theorem js_asg {vs : List Nat} {tg e : Expr} {f : SF} {g : SG} {pos : Pos} (he : JE X E e f) (hg : JG X E vs tg g) (hs : swapsWithSole [tg] e pos.line X.env = pure false := by rfl) (hw : swappedStores [tg] e X.env = pure none := by rfl)
    (h1 : (assignEach [tg] X.env).map (·.2) = [assign tg X.env] := by rfl) : JS X E (.Assign [tg] e pos) (sAsg f g) := by
  refine PS.weak (ps_asg he hg hs hw h1) fun D σ H ⟨ρ, M, σd, R, en, hp⟩ => ⟨ρ, M, σd, R, en, hp.bind.imp fun d M1 ρ1 H1 x1 R1 hp1 v rv => ?_⟩
  refine ⟨ρ1, M1, σd, d, R1, en.ext R x1, rv, hp1.bind.imp fun σ1 M2 ρ2 H2 x2 R2 hp2 σ' en' _ => hp2.here R2 σ' en'⟩
theorem js_set {i : Nat} {x : Str} {e : Expr} {f : SF} {pos pos' : Pos} (hN : X.N.Nodup) (hi : X.N[i]? = some x) (hx : Loc X.env.scope x) (he : JE X E e f) (hs : swapsWith e (some (.Name x pos')) pos.line X.env = pure false := by rfl) (hf : X.fn x = true ∨ X.env.scope.names.lookup x = some .local := by first | exact .inl rfl | exact .inr rfl | assumption) :
    JS X E (.Assign [.Name x pos'] e pos) (sAsg f (gSet i)) := by
  refine PS.weak (ps_set hN hi hx he hs hf) fun D σ H ⟨ρ, M, σd, R, en, hp⟩ => ⟨ρ, M, σd, R, en, hp.bind.imp fun d M1 ρ1 H1 x1 R1 hp1 v rv => ?_⟩
  exact hp1.here R1 _ ((en.ext R x1).set i rv)
/-- a, b = x, y: two plain local names -/
def sPar (i j : Nat) (fa : SFs) : SS := fun σ M => (fa σ M).bind fun ds M1 => match ds with
  | [d, e] => .ok (.nx ((σ.set i (some d)).set j (some e))) M1
  | _ => .bad
theorem js_par {i j : Nat} {x y : Str} {a b : Expr} {fa : SFs} {px py pt pos : Pos} {kt k2 pt2} (hc : X.calm = true) (hN : X.N.Nodup) (hi : X.N[i]? = some x) (hj : X.N[j]? = some y) (hij : i ≠ j)
    (hx : X.env.scope.names.lookup x = some .local) (hy : X.env.scope.names.lookup y = some .local) (ha : JA X E [a, b] fa)
    (hw : swappedStores [.Tuple [.Name x px, .Name y py] kt pt] (.Tuple [a, b] k2 pt2) X.env = pure (some [x, y]))
    (hs : swapsWithSole [.Tuple [.Name x px, .Name y py] kt pt] (.Tuple [a, b] k2 pt2) pos.line X.env = pure false := by rfl) :
    JS X E (.Assign [.Tuple [.Name x px, .Name y py] kt pt] (.Tuple [a, b] k2 pt2) pos) (sPar i j fa) := by
  refine PS.weak (ps_par hc hN hi hj hij hx hy ha hw hs) fun D σ H ⟨ρ, M, σd, R, en, hp⟩ => ⟨ρ, M, σd, R, en, hp.bind.imp fun ds M1 ρ1 H1 x1 R1 hp1 vs rv => ?_⟩
  split at hp1
  · obtain ⟨v, w, rfl, r1, r2⟩ := dens2 rv
    exact ⟨v, w, rfl, hp1.here R1 _ (((en.ext R x1).set i r1).set j r2)⟩
  · exact hp1.elim
def sAug (i : Nat) (g : D → D → Mem → Out D) (f : SF) : SS := fun σ M => match σ[i]? with
  | some (some x) => (f σ M).bind fun y M1 => (g x y M1).bind fun z M2 => .ok (.nx (σ.set i (some z))) M2
  | _ => .bad
theorem js_aug {i : Nat} {x : Str} {e : Expr} {f : SF} {op : Operator} {g : D → D → Mem → Out D} {pos pos' : Pos} (hN : X.N.Nodup) (hi : X.N[i]? = some x) (hx : Loc X.env.scope x) (he : JE X E e f) (ho : OpR X (inplaceOp op) (rD X.K X.mg E g))
    (hf : X.fn x = true ∨ X.env.scope.names.lookup x = some .local := by first | exact .inl rfl | exact .inr rfl | assumption) : JS X E (.AugAssign (.Name x pos') op e pos) (sAug i g f) := by
  refine PS.weak (ps_aug (ti := rD X.K X.mg E g) hN hi hx he (fun pins s σ H x y v u Q I r1 r2 h => ho pins s σ H x y v u Q I r1 r2 h) hf) fun D σ H ⟨ρ, M, σd, R, en, hp⟩ => ?_
  unfold sAug at hp
  split at hp
  · rename_i d ed
    obtain ⟨v, e1, r⟩ := en.get i d ed
    refine ⟨v, e1, ρ, M, σd, R, en, hp.bind.imp fun y M1 ρ1 H1 x1 R1 hp1 w rw' => ?_⟩
    refine ⟨ρ1, M1, d, y, R1, r.ext R x1, rw', hp1.bind.imp fun z M2 ρ2 H2 x2 R2 hp2 u ru => ?_⟩
    exact hp2.here R2 _ (((en.ext R x1).ext R1 x2).set i ru)
  · exact hp.elim
theorem oi_add : OpR X (inplaceOp .Add) (rD X.K X.mg E (fun x y M => match x, y with
    | .int i, .int j => .ok (.int (i + j)) M
    | .str a, .str b => if a.length + b.length ≤ 16777216 then .ok (.str (a ++ b)) M else .bad
    | _, _ => .bad)) := by
  intro pins s σ H x y v u Q I rx ry h
  obtain ⟨ρ, M, dx, dy, R, r1, r2, hp⟩ := h
  dsimp only at hp
  split at hp
  · cases r1; cases r2
    exact iop_add pins s σ H _ _ v u Q I rx ry ⟨_, _, rfl, rfl, hp.here R _ (.int _)⟩
  · rename_i a b
    cases r1; cases r2
    split at hp
    · rename_i hl
      exact iop_add_str pins s σ H _ _ v u Q I rx ry ⟨_, _, rfl, rfl, by show a.toArray.size + b.toArray.size ≤ sizeLine; simpa [sizeLine] using hl, by rw [str_append]; exact hp.here R _ (.str _)⟩
    · exact hp.elim
  · exact hp.elim
theorem oi_sub : OpR X (inplaceOp .Sub) (rD X.K X.mg E dSub) := by
  intro pins s σ H x y v u Q I rx ry h
  obtain ⟨ρ, M, dx, dy, R, r1, r2, hp⟩ := h
  unfold dSub at hp
  cases r1 <;> cases r2 <;> first | exact hp.elim | skip
  exact iop_sub pins s σ H _ _ v u Q I rx ry ⟨_, _, rfl, rfl, hp.here R _ (.int _)⟩
/-! ### while -/
def sWhileN (c : SB) (b : SS) : Nat → SS
  | 0, _, _ => .bad
  | n + 1, σ, M => (c σ M).bind fun k M1 => match k with
    | false => .ok (.nx σ) M1
    | true => (b σ M1).bind fun fl M2 => match fl with
      | .nx σ2 => sWhileN c b n σ2 M2
      | .ct σ2 => sWhileN c b n σ2 M2
      | .bk σ2 => .ok (.nx σ2) M2
      | .rt d => .ok (.rt d) M2
theorem js_while {c : Expr} {body : List Stmt} {fc : SB} {fb : SS} {pos : Pos} (n : Nat) (hp : PassesOwn (model X.prog X.w) X.A X.env X.xe) (hc : JT X E c fc) (hb : JSs X E body fb) : JS X E (.While c body [] pos) (sWhileN fc fb n) := by
  refine PS.weak (ps_while hp hc hb) fun D σ H ⟨ρ, M, σd, R, en, hp⟩ => ?_
  refine ⟨fun m σ H => ∃ ρ M σd, Rep X.K ρ M H ∧ EnvD X.K ρ H σd σ ∧ Post X.K X.mg E ρ H (sWhileN fc fb m σd M) fun fl _ ρ' H' => FlOk X.K D fl ρ' H', ⟨n, ρ, M, σd, R, en, hp⟩, ?_⟩
  rintro m σ H ⟨ρ, M, σd, R, en, hp⟩
  cases m with
  | zero => exact ⟨ρ, M, σd, R, en, by
      have : False := hp
      exact this.elim⟩
  | succ m =>
    refine ⟨ρ, M, σd, R, en, (show Post X.K X.mg E ρ H ((fc σd M).bind _) _ from hp).bind.imp fun k M1 ρ1 H1 x1 R1 hp1 => ?_⟩
    cases k with
    | false =>
      rw [if_neg Bool.false_ne_true]
      exact hp1.here R1 σ (en.ext R x1)
    | true =>
      rw [if_pos rfl]
      refine ⟨fun σ H => ∃ ρ M σd, Rep X.K ρ M H ∧ EnvD X.K ρ H σd σ ∧ Post X.K X.mg E ρ H (sWhileN fc fb m σd M) fun fl _ ρ' H' => FlOk X.K D fl ρ' H', fun σ' H' w => ⟨m, Nat.lt_succ_self m, w⟩, ρ1, M1, σd, R1, en.ext R x1, hp1.bind.imp fun fl M2 ρ2 H2 x2 R2 hp2 => ?_⟩
      cases fl with
      | nx σ2 => exact fun σ' en' => ⟨ρ2, M2, σ2, R2, en', hp2⟩
      | ct σ2 => exact fun σ' en' => ⟨ρ2, M2, σ2, R2, en', hp2⟩
      | bk σ2 => exact hp2.here R2
      | rt d => exact hp2.here R2

/-! ### what a loop walks -/
inductive IVS where
  | cnt
  | st (xs : List D)
  | lv (n : Nat)
inductive IV where
  | st (xs : List D)
  | lv (n : Nat)
  | pv (a b : IVS)
/-- the item at turn i (none: the walk ends there; out: not told) -/
def ivsAt (s : IVS) (i : Nat) (M : Mem) : Option (Option D) := match s with
  | .cnt => some (some (.int i))
  | .st xs => if i ≤ xs.length then some xs[i]? else none
  | .lv n => match M[n]? with
    | some (.lst xs) => if i ≤ xs.length then some xs[i]? else none
    | _ => none
def pairAt (x y : Option (Option D)) : Option (Option D) := match x, y with
  | some (some x), some (some y) => some (some (.tup [x, y]))
  | some _, some _ => some none
  | _, _ => none
def ivAt (iv : IV) (i : Nat) (M : Mem) : Option (Option D) := match iv with
  | .st xs => if i ≤ xs.length then some xs[i]? else none
  | .lv n => match M[n]? with
    | some (.lst xs) => some xs[i]?
    | _ => none
  | .pv a b => pairAt (ivsAt a i M) (ivsAt b i M)
abbrev SI := SD → Mem → Out IV
/-- the walk J at a state yields the item d at turn i -/
def Yields (K : PySem.W.Frag) (J : It) (i : Nat) (d : D) (ρ : Nu) (M : Mem) (H : Hp) : Prop :=
  J.go i H ∧ ∀ x H', J.yld i H x H' → Ext ρ H ρ H' ∧ Rep K ρ M H' ∧ Den K ρ H' d x
def ItOk (K : PySem.W.Frag) (J : It) (iv : IV) (ρ : Nu) (H : Hp) : Prop :=
  ∀ ρ2 M2 H2, ExtR ρ H ρ2 H2 → Rep K ρ2 M2 H2 → ∀ i, (∀ d, ivAt iv i M2 = some (some d) → Yields K J i d ρ2 M2 H2) ∧ (ivAt iv i M2 = some none → J.stop i H2)
theorem itOk_st {K : PySem.W.Frag} {J : It} {xs : List D} {ρ : Nu} {H : Hp} (h : ∀ ρ2 M2 H2, ExtR ρ H ρ2 H2 → Rep K ρ2 M2 H2 → (∀ i d, xs[i]? = some d → Yields K J i d ρ2 M2 H2) ∧ J.stop xs.length H2) : ItOk K J (.st xs) ρ H := by
  intro ρ2 M2 H2 x R i
  obtain ⟨h1, h2⟩ := h ρ2 M2 H2 x R
  refine ⟨fun d e => ?_, fun e => ?_⟩
  · unfold ivAt at e
    dsimp only at e
    split at e
    · exact h1 i d (Option.some.inj e)
    · cases e
  · unfold ivAt at e
    dsimp only at e
    split at e
    · rename_i hi
      have := List.getElem?_eq_none_iff.mp (Option.some.inj e)
      have hi : i = xs.length := by omega
      subst hi
      exact h2
    · cases e
theorem itOk_lv {K : PySem.W.Frag} {J : It} {n : Nat} {ρ : Nu} {H : Hp} (h : ∀ ρ2 M2 H2, ExtR ρ H ρ2 H2 → Rep K ρ2 M2 H2 → ∀ xs, M2[n]? = some (.lst xs) → (∀ i d, xs[i]? = some d → Yields K J i d ρ2 M2 H2) ∧ ∀ i, xs.length ≤ i → J.stop i H2) : ItOk K J (.lv n) ρ H := by
  intro ρ2 M2 H2 x R i
  refine ⟨fun d e => ?_, fun e => ?_⟩
  · unfold ivAt at e
    dsimp only at e
    split at e
    · rename_i xs hx
      exact (h ρ2 M2 H2 x R xs hx).1 i d (Option.some.inj e)
    · cases e
  · unfold ivAt at e
    dsimp only at e
    split at e
    · rename_i xs hx
      exact (h ρ2 M2 H2 x R xs hx).2 i (List.getElem?_eq_none_iff.mp (Option.some.inj e))
    · cases e
def tI (K : PySem.W.Frag) (mg : Str → Option Value) (E : XK) (f : SI) : TI := fun σ H R => ∃ ρ M σd, Rep K ρ M H ∧ EnvD K ρ H σd σ ∧
  Post K mg E ρ H (f σd M) fun iv _ ρ' H' => ∀ J, ItOk K J iv ρ' H' → R J H'
abbrev JI (X : Cx) (E : XK) (tg e : Expr) (f : SI) : Prop := PI X tg e (tI X.K X.mg E f)
theorem PI.weak {X : Cx} {tg e : Expr} {t t' : TI} (h : PI X tg e t) (w : ∀ σ H Q, t' σ H Q → t σ H Q) : PI X tg e t' := ⟨fun pins s σ H Q I q => h.run pins s σ H Q I (w σ H Q q)⟩
/-- lists, tuples, texts -/
def ivO (d : D) (M : Mem) : Option IV := match d with
  | .lst xs => some (.st xs)
  | .fl xs => some (.st xs)
  | .tup xs => some (.st xs)
  | .str z => some (.st (z.map fun c => .str [c]))
  | .ref n => match M[n]? with
    | some (.lst _) => some (.lv n)
    | _ => none
  | _ => none
def iOf (f : SF) : SI := fun σ M => (f σ M).bind fun d M1 => optO (ivO d M1) fun iv => .ok iv M1
theorem yields_lst {K : PySem.W.Frag} {ρ : Nu} {M : Mem} {H : Hp} {a : Addr} {vs : List V} {ds : List D} {i : Nat} {d : D} (R : Rep K ρ M H) (h : SqL K H a vs) (t : Dens K ρ H ds vs) (e : ds[i]? = some d) : Yields K (Itl K a) i d ρ M H := by
  obtain ⟨v, ev, r⟩ := t.get e
  refine ⟨⟨vs, v, h, ev⟩, fun x H' y => ?_⟩
  obtain ⟨e1, y⟩ := y
  subst e1
  have := (y vs h).symm.trans ev
  cases this
  exact ⟨.refl, R, r⟩
theorem yields_tup {K : PySem.W.Frag} {ρ : Nu} {M : Mem} {H : Hp} {a : Addr} {vs : List V} {ds : List D} {i : Nat} {d : D} (R : Rep K ρ M H) (h : SqT K H a vs) (t : Dens K ρ H ds vs) (e : ds[i]? = some d) : Yields K (Itt K a) i d ρ M H := by
  obtain ⟨v, ev, r⟩ := t.get e
  refine ⟨⟨vs, v, h, ev⟩, fun x H' y => ?_⟩
  obtain ⟨e1, y⟩ := y
  subst e1
  have := (y vs h).symm.trans ev
  cases this
  exact ⟨.refl, R, r⟩
theorem itOk_lst {K : PySem.W.Frag} {ρ : Nu} {M : Mem} {H : Hp} {a : Addr} {ds : List D} (R : Rep K ρ M H) (h : Den K ρ H (.lst ds) (.ref a)) : ItOk K (Itl K a) (.st ds) ρ H := by
  refine itOk_st fun ρ2 M2 H2 x R2 => ?_
  have h2 := h.extR R x
  cases h2 with
  | lst h1 h2 hs t => exact ⟨fun i d e => yields_lst R2 (.of hs) t e, _, .of hs, by rw [t.length]; exact Nat.le_refl _⟩
theorem itOk_fl {K : PySem.W.Frag} {ρ : Nu} {M : Mem} {H : Hp} {a : Addr} {ds : List D} (R : Rep K ρ M H) (h : Den K ρ H (.fl ds) (.ref a)) : ItOk K (Itl K a) (.st ds) ρ H := by
  refine itOk_st fun ρ2 M2 H2 x R2 => ?_
  have h2 := h.extR R x
  cases h2 with
  | fl hs t => exact ⟨fun i d e => yields_lst R2 hs.sq t e, _, hs.sq, by rw [t.length]; exact Nat.le_refl _⟩
theorem itOk_tup {K : PySem.W.Frag} {ρ : Nu} {M : Mem} {H : Hp} {a : Addr} {ds : List D} (R : Rep K ρ M H) (h : Den K ρ H (.tup ds) (.ref a)) : ItOk K (Itt K a) (.st ds) ρ H := by
  refine itOk_st fun ρ2 M2 H2 x R2 => ?_
  have h2 := h.extR R x
  cases h2 with
  | tup hs t => exact ⟨fun i d e => yields_tup R2 hs.sq t e, _, hs.sq, by rw [t.length]; exact Nat.le_refl _⟩
theorem itOk_ref {K : PySem.W.Frag} {ρ : Nu} {H : Hp} {a : Addr} {n : Nat} (h : ρ.num[n]? = some a) : ItOk K (Itl K a) (.lv n) ρ H := by
  refine itOk_lv fun ρ2 M2 H2 x R2 xs hx => ?_
  obtain ⟨vs, h1, t⟩ := R2.obj _ _ _ (x.get h) hx
  exact ⟨fun i d e => yields_lst R2 (.of h1) t e, fun i hi => ⟨vs, .of h1, by rw [← t.length]; exact hi⟩⟩
theorem itOk_str {K : PySem.W.Frag} {ρ : Nu} {H : Hp} (z : List Nat) : ItOk K (Its ⟨z.toArray⟩) (.st (z.map fun c => .str [c])) ρ H := by
  refine itOk_st fun ρ2 M2 H2 x R2 => ?_
  refine ⟨fun i d e => ?_, by show z.toArray.size ≤ _; simp⟩
  rw [List.getElem?_map] at e
  cases q : z[i]? with
  | none => rw [q] at e; cases e
  | some c =>
    rw [q] at e
    cases e
    refine ⟨by show i < z.toArray.size; simpa using (List.getElem?_eq_some_iff.mp q).1, fun w H' y => ?_⟩
    obtain ⟨e1, c', e2, e3⟩ := y
    subst e1 e3
    have e2 : z.toArray[i]? = some c' := e2
    rw [List.getElem?_toArray, q] at e2
    cases e2
    exact ⟨.refl, R2, .str [c]⟩
theorem ji_of {tg e : Expr} {f : SF} (he : JE X E e f) : JI X E tg e (iOf f) := by
  refine ⟨fun pins s σ H Rr I ⟨ρ, M, σd, R, en, hp⟩ => ?_⟩
  unfold iOf at hp
  have hp0 := hp.bind
  cases q : f σd M with
  | bad => rw [q] at hp0; exact hp0.elim
  | exc n fs M1 =>
    rw [q] at hp0
    exact (pi_list (tg := tg) he).run pins s σ H Rr I ⟨ρ, M, σd, R, en, by rw [q]; exact hp0⟩
  | ok d M1 =>
    rw [q] at hp0
    obtain ⟨iv, eiv, _⟩ := optO_post (show Post X.K X.mg E ρ H (optO (ivO d M1) fun iv => .ok iv M1) _ by rw [q] at hp; exact hp)
    unfold ivO at eiv
    split at eiv
    · cases eiv
      refine (pi_list (tg := tg) he).run pins s σ H Rr I ⟨ρ, M, σd, R, en, by
        rw [q]
        intro ρ1 H1 x1 R1 v rv
        have hp1 := hp0 ρ1 H1 x1 R1
        obtain ⟨iv, e, hp1⟩ := optO_post hp1
        cases e
        have rv' := rv
        cases rv' with
        | lst h1 h2 hs t => exact ⟨_, rfl, ⟨_, .of hs⟩, hp1.here R1 _ (itOk_lst R1 rv)⟩⟩
    · cases eiv
      refine (pi_list (tg := tg) he).run pins s σ H Rr I ⟨ρ, M, σd, R, en, by
        rw [q]
        intro ρ1 H1 x1 R1 v rv
        have hp1 := hp0 ρ1 H1 x1 R1
        obtain ⟨iv, e, hp1⟩ := optO_post hp1
        cases e
        have rv' := rv
        cases rv' with
        | fl hs t => exact ⟨_, rfl, ⟨_, hs.sq⟩, hp1.here R1 _ (itOk_fl R1 rv)⟩⟩
    · cases eiv
      refine (pi_tup (tg := tg) he).run pins s σ H Rr I ⟨ρ, M, σd, R, en, by
        rw [q]
        intro ρ1 H1 x1 R1 v rv
        have hp1 := hp0 ρ1 H1 x1 R1
        obtain ⟨iv, e, hp1⟩ := optO_post hp1
        cases e
        have rv' := rv
        cases rv' with
        | tup hs t => exact ⟨_, rfl, ⟨_, hs.sq⟩, hp1.here R1 _ (itOk_tup R1 rv)⟩⟩
    · cases eiv
      refine (pi_str (tg := tg) he).run pins s σ H Rr I ⟨ρ, M, σd, R, en, by
        rw [q]
        intro ρ1 H1 x1 R1 v rv
        have hp1 := hp0 ρ1 H1 x1 R1
        obtain ⟨iv, e, hp1⟩ := optO_post hp1
        cases e
        cases rv with
        | str z' => exact ⟨_, rfl, hp1.here R1 _ (itOk_str _)⟩⟩
    · rename_i n
      split at eiv
      · rename_i xs hx
        cases eiv
        refine (pi_list (tg := tg) he).run pins s σ H Rr I ⟨ρ, M, σd, R, en, by
          rw [q]
          intro ρ1 H1 x1 R1 v rv
          have hp1 := hp0 ρ1 H1 x1 R1
          obtain ⟨iv, e, hp1⟩ := optO_post hp1
          have e2 : iv = .lv n := by
            unfold ivO at e
            simp only [hx] at e
            cases e; rfl
          subst e2
          cases rv with
          | ref hr =>
            obtain ⟨vs, h1, t⟩ := R1.obj _ _ _ hr hx
            exact ⟨_, rfl, ⟨_, .of h1⟩, hp1.here R1 _ (itOk_ref hr)⟩⟩
      · cases eiv
    · cases eiv
/-! ranges -/
def rngL (lo : Int) (n : Nat) : List D := (List.range n).map fun i => .int (lo + (i : Nat))
def small62 (i : Int) : Bool := decide (-(2 ^ 62) ≤ i) && decide (i < 2 ^ 62)
def iRange1 (fa : SFs) : SI := fun σ M => (fa σ M).bind fun ds M1 => match ds with
  | [.int j] => if small62 j = true then .ok (.st (rngL 0 j.toNat)) M1 else .bad
  | _ => .bad
def iRange2 (fa : SFs) : SI := fun σ M => (fa σ M).bind fun ds M1 => match ds with
  | [.int i, .int j] => if (small62 i && small62 j) = true then .ok (.st (rngL i (j - i).toNat)) M1 else .bad
  | _ => .bad
theorem itOk_rng {K : PySem.W.Frag} {ρ : Nu} {H : Hp} (lo : Int) (n : Nat) : ItOk K (Itr lo n) (.st (rngL lo n)) ρ H := by
  refine itOk_st fun ρ2 M2 H2 x R2 => ?_
  unfold rngL
  refine ⟨fun i d e => ?_, by show n ≤ _; simp⟩
  rw [List.getElem?_map] at e
  by_cases hi : i < n
  · rw [List.getElem?_range hi] at e
    cases e
    refine ⟨hi, fun w H' y => ?_⟩
    obtain ⟨e1, e2⟩ := y
    subst e1 e2
    exact ⟨.refl, R2, .int _⟩
  · rw [List.getElem?_eq_none (by simpa using hi)] at e
    cases e
theorem ji_range1 {tg a : Expr} {fa : SFs} {p pos : Pos} (hg : Gl X "range") (hm : X.mg "range" = none) (ha : JA X E [a] fa) (hs : starEach [a] X.env = [(false, eval a X.env)] := by rfl) : JI X E tg (.Call (.Name "range" p) [a] [] pos) (iRange1 fa) := by
  refine PI.weak (pi_range1 hg hm ha hs) fun σ H Rr ⟨ρ, M, σd, R, en, hp⟩ => ⟨ρ, M, σd, R, en, hp.bind.imp fun ds M1 ρ1 H1 x1 R1 hp1 vs rv => ?_⟩
  split at hp1
  · rename_i j
    obtain ⟨v, rfl, r⟩ := dens1 rv
    cases r
    split at hp1
    · rename_i hs
      unfold small62 at hs
      simp only [Bool.and_eq_true, decide_eq_true_eq] at hs
      exact ⟨j, rfl, hs.1, hs.2, hp1.here R1 _ (itOk_rng 0 _)⟩
    · exact hp1.elim
  · exact hp1.elim
theorem ji_range2 {tg a b : Expr} {fa : SFs} {p pos : Pos} (hg : Gl X "range") (hm : X.mg "range" = none) (ha : JA X E [a, b] fa) (hs : starEach [a, b] X.env = [(false, eval a X.env), (false, eval b X.env)] := by rfl) (hs2 : starEach [b] X.env = [(false, eval b X.env)] := by rfl) :
    JI X E tg (.Call (.Name "range" p) [a, b] [] pos) (iRange2 fa) := by
  refine PI.weak (pi_range2 hg hm ha hs hs2) fun σ H Rr ⟨ρ, M, σd, R, en, hp⟩ => ⟨ρ, M, σd, R, en, hp.bind.imp fun ds M1 ρ1 H1 x1 R1 hp1 vs rv => ?_⟩
  split at hp1
  · rename_i i j
    obtain ⟨v, w, rfl, r, r'⟩ := dens2 rv
    cases r; cases r'
    split at hp1
    · rename_i hs
      unfold small62 at hs
      simp only [Bool.and_eq_true, decide_eq_true_eq] at hs
      exact ⟨i, j, rfl, ⟨hs.1.1, hs.1.2, hs.2.1, hs.2.2⟩, hp1.here R1 _ (itOk_rng i _)⟩
    · exact hp1.elim
  · exact hp1.elim

/-! ### for -/
def forL (g : SG) (b : SS) : List D → SS
  | [], σ, M => .ok (.nx σ) M
  | x :: xs, σ, M => (g x σ M).bind fun σ1 M1 => (b σ1 M1).bind fun fl M2 => match fl with
    | .nx σ2 => forL g b xs σ2 M2
    | .ct σ2 => forL g b xs σ2 M2
    | .bk σ2 => .ok (.nx σ2) M2
    | .rt d => .ok (.rt d) M2
def forV (g : SG) (b : SS) (iv : IV) : Nat → Nat → SS
  | 0, _, _, _ => .bad
  | k + 1, i, σ, M => match ivAt iv i M with
    | none => .bad
    | some none => .ok (.nx σ) M
    | some (some x) => (g x σ M).bind fun σ1 M1 => (b σ1 M1).bind fun fl M2 => match fl with
      | .nx σ2 => forV g b iv k (i + 1) σ2 M2
      | .ct σ2 => forV g b iv k (i + 1) σ2 M2
      | .bk σ2 => .ok (.nx σ2) M2
      | .rt d => .ok (.rt d) M2
theorem forL_V {g : SG} {b : SS} {xs : List D} : ∀ (ys : List D) (i : Nat) (σ : SD) (M : Mem), xs.drop i = ys → i ≤ xs.length → forV g b (.st xs) (ys.length + 1) i σ M = forL g b ys σ M
  | [], i, σ, M, h, hi => by
    have : xs.length ≤ i := by simpa using h
    unfold forV ivAt forL
    simp only [if_pos hi, List.getElem?_eq_none this]
  | y :: ys, i, σ, M, h, hi => by
    have hlt : i < xs.length := by
      refine Nat.lt_of_not_le fun z => ?_
      rw [List.drop_eq_nil_of_le z] at h; cases h
    have e1 : xs[i]? = some y := by
      rw [List.drop_eq_getElem_cons hlt] at h
      injection h with h1 h2
      rw [List.getElem?_eq_getElem hlt, h1]
    have e2 : xs.drop (i + 1) = ys := by
      rw [List.drop_eq_getElem_cons hlt] at h
      injection h with h1 h2
    have ih := fun σ M => forL_V (g := g) (b := b) ys (i + 1) σ M e2 hlt
    show forV g b (.st xs) (ys.length + 1 + 1) i σ M = _
    rw [forV, forL]
    simp only [ivAt, if_pos hi, e1, ih]
def forU (g : SG) (b : SS) (iv : IV) : SS := match iv with
  | .st xs => forL g b xs
  | iv => forV g b iv 20000000 0
theorem forU_V (g : SG) (b : SS) (iv : IV) : ∃ n, ∀ σ M, forU g b iv σ M = forV g b iv n 0 σ M := by
  cases iv with
  | st xs => exact ⟨xs.length + 1, fun σ M => (forL_V xs 0 σ M rfl (Nat.zero_le _)).symm⟩
  | lv n => exact ⟨_, fun _ _ => rfl⟩
  | pv a b => exact ⟨_, fun _ _ => rfl⟩
def sFor (fi : SI) (g : SG) (b : SS) : SS := fun σ M => (fi σ M).bind fun iv M1 => forU g b iv σ M1
theorem js_for {vs : List Nat} {tg iter : Expr} {body : List Stmt} {fi : SI} {g : SG} {b : SS} {pos : Pos} (hp : PassesOwn (model X.prog X.w) X.A X.env X.xe) (hc : X.calm = true) (hi : JI X E tg iter fi) (hg : JG X E vs tg g) (hb : JSs X E body b)
    (hs : ∀ x, foldedSetIterable iter X.env x = pure x := by intro _; rfl) : JS X E (.For tg iter body [] pos) (sFor fi g b) := by
  refine PS.weak (ps_for hp hc hi hg hb hs) fun D σ H ⟨ρ, M, σd, R, en, hp⟩ => ⟨ρ, M, σd, R, en, hp.bind.imp fun iv M1 ρ1 H1 x1 R1 hp1 J hJ => ?_⟩
  have en1 := en.ext R x1
  obtain ⟨m0, hm0⟩ := forU_V g b iv
  rw [hm0] at hp1
  refine ⟨fun i m σ H => ∃ ρ2 M2 σd2, Rep X.K ρ2 M2 H ∧ EnvD X.K ρ2 H σd2 σ ∧ Ext ρ1 H1 ρ2 H ∧ Post X.K X.mg E ρ2 H (forV g b iv m i σd2 M2) fun fl _ ρ' H' => FlOk X.K D fl ρ' H',
    ⟨m0, ρ1, M1, σd, R1, en1, .refl, hp1⟩, ?_⟩
  rintro i m σ2 H2 ⟨ρ2, M2, σd2, R2, en2, x2, hp2⟩
  cases m with
  | zero => exact (show False from hp2).elim
  | succ m =>
    unfold forV at hp2
    obtain ⟨hy, hst⟩ := hJ ρ2 M2 H2 x2.toR R2 i
    split at hp2
    · exact (show False from hp2).elim
    · rename_i e
      exact .inl ⟨hst e, hp2.here R2 σ2 en2⟩
    · rename_i x e
      obtain ⟨hgo, hyl⟩ := hy _ e
      refine .inr ⟨hgo, fun σ H => ∃ ρ2 M2 σd2, Rep X.K ρ2 M2 H ∧ EnvD X.K ρ2 H σd2 σ ∧ Ext ρ1 H1 ρ2 H ∧ Post X.K X.mg E ρ2 H (forV g b iv m (i + 1) σd2 M2) fun fl _ ρ' H' => FlOk X.K D fl ρ' H',
        fun σ' H' w => ⟨m, Nat.lt_succ_self m, w⟩, fun v H' y => ?_⟩
      obtain ⟨x3, R3, rx⟩ := hyl v H' y
      have hp3 := (Post.from hp2 x3)
      refine ⟨ρ2, M2, σd2, _, R3, en2.ext R2 x3, rx, hp3.bind.imp fun σ4 M4 ρ4 H4 x4 R4 hp4 σ' en' _ => ?_⟩
      refine ⟨ρ4, M4, σ4, R4, en', hp4.bind.imp fun fl M5 ρ5 H5 x5 R5 hp5 => ?_⟩
      have x15 := ((x2.trans x3).trans x4).trans x5
      cases fl with
      | nx σ5 => exact fun σ'' en'' => ⟨ρ5, M5, σ5, R5, en'', x15, hp5⟩
      | ct σ5 => exact fun σ'' en'' => ⟨ρ5, M5, σ5, R5, en'', x15, hp5⟩
      | bk σ5 => exact hp5.here R5
      | rt d => exact hp5.here R5
end
end KP

/-! comprehensions, defs -/
namespace KP
open PySem PySem.Spec PyProof.Rows L2

theorem wipe_off {σ τ : L2.St} : ∀ {vs : List Nat}, Off vs τ σ → L2.wipe σ vs = L2.wipe τ vs := by
  intro vs h
  have hl : ∀ ws : List Nat, (L2.wipe σ ws).length = (L2.wipe τ ws).length := fun ws => by rw [L2.wipe_length, L2.wipe_length, h.1]
  have get : ∀ (ws : List Nat) (i : Nat), (L2.wipe σ ws)[i]? = if i ∈ ws then (if i < σ.length then some none else none) else σ[i]? := by
    intro ws
    induction ws with
    | nil => intro i; simp [L2.wipe]
    | cons v ws ih =>
      intro i
      unfold L2.wipe
      rw [List.getElem?_set, L2.wipe_length]
      by_cases hv : v = i
      · subst hv
        simp
      · rw [if_neg hv, ih]
        by_cases hi : i ∈ ws
        · simp [hi]
        · have : i ∉ v :: ws := by simp [hi, Ne.symm hv]
          rw [if_neg hi, if_neg this]
  have getτ : ∀ (ws : List Nat) (i : Nat), (L2.wipe τ ws)[i]? = if i ∈ ws then (if i < τ.length then some none else none) else τ[i]? := by
    intro ws
    induction ws with
    | nil => intro i; simp [L2.wipe]
    | cons v ws ih =>
      intro i
      unfold L2.wipe
      rw [List.getElem?_set, L2.wipe_length]
      by_cases hv : v = i
      · subst hv
        simp
      · rw [if_neg hv, ih]
        by_cases hi : i ∈ ws
        · simp [hi]
        · have : i ∉ v :: ws := by simp [hi, Ne.symm hv]
          rw [if_neg hi, if_neg this]
  apply List.ext_getElem?
  intro i
  rw [get, getτ, h.1]
  by_cases hi : i ∈ vs
  · rw [if_pos hi, if_pos hi]
  · rw [if_neg hi, if_neg hi, h.2 i hi]
theorem wipe_wipe {σ : L2.St} {vs : List Nat} : L2.wipe (L2.wipe σ vs) vs = L2.wipe σ vs := by
  refine wipe_off ⟨L2.wipe_length _ _, fun i hi => ?_⟩
  have : ∀ ws : List Nat, i ∉ ws → (L2.wipe σ ws)[i]? = σ[i]? := by
    intro ws
    induction ws with
    | nil => intro _; rfl
    | cons v ws ih =>
      intro h
      simp only [List.mem_cons, not_or] at h
      unfold L2.wipe
      rw [List.getElem?_set_ne (Ne.symm h.1)]
      exact ih h.2
  exact this vs hi
theorem Off.sub {vs ws : List Nat} {σ σ' : L2.St} (h : Off vs σ σ') (hs : ∀ i ∈ vs, i ∈ ws) : Off ws σ σ' := ⟨h.1, fun i hi => h.2 i fun z => hi (hs i z)⟩

/-- an exception counts as failure -/
def Out.nox {α : Type} : Out α → Out α
  | .ok a M => .ok a M
  | _ => .bad
def EF : XK := fun _ _ _ => False
theorem nox_post {K : PySem.W.Frag} {mg : Str → Option Value} {E : XK} {ρ : Nu} {H : Hp} {α : Type} {x : Out α} {P : α → Mem → Nu → Hp → Prop} (h : Post K mg E ρ H x.nox P) : Post K mg EF ρ H x P := by
  cases x with
  | ok a M => exact h
  | exc n fs M => exact h.elim
  | bad => exact h

def ivsLen (s : IVS) (M : Mem) : Option Nat := match s with
  | .cnt => none
  | .st xs => some xs.length
  | .lv n => match M[n]? with
    | some (.lst xs) => some xs.length
    | _ => some 0
def ivLen (iv : IV) (M : Mem) : Nat := match iv with
  | .st xs => xs.length
  | .lv n => match M[n]? with
    | some (.lst xs) => xs.length
    | _ => 0
  | .pv a b => match ivsLen a M, ivsLen b M with
    | some i, some j => min i j
    | none, some j => j
    | some i, none => i
    | none, none => 0
theorem ivAt_some {K : PySem.W.Frag} {J : It} {iv : IV} {ρ ρ2 : Nu} {H H2 : Hp} {M2 : Mem} {i : Nat} {d : D} (h : ItOk K J iv ρ H) (x : ExtR ρ H ρ2 H2) (R : Rep K ρ2 M2 H2) (e : ivAt iv i M2 = some (some d)) : Yields K J i d ρ2 M2 H2 := (h ρ2 M2 H2 x R i).1 d e
theorem ivAt_none {K : PySem.W.Frag} {J : It} {iv : IV} {ρ ρ2 : Nu} {H H2 : Hp} {M2 : Mem} {i : Nat} (h : ItOk K J iv ρ H) (x : ExtR ρ H ρ2 H2) (R : Rep K ρ2 M2 H2) (e : ivAt iv i M2 = some none) : J.stop i H2 := (h ρ2 M2 H2 x R i).2 e

/-- the items of a list comprehension, from turn i on -/
def lcG (iv : IV) (g : SG) (t : SB) (e : SF) : Nat → Nat → SD → Mem → Out (List D)
  | 0, _, _, _ => .bad
  | k + 1, i, σ, M => match ivAt iv i M with
    | none => .bad
    | some none => .ok [] M
    | some (some x) => (g x σ M).bind fun σ1 M1 => (t σ1 M1).bind fun b M2 => match b with
      | true => (e σ1 M2).bind fun y M3 => (lcG iv g t e k (i + 1) σ M3).bind fun ys M4 => .ok (y :: ys) M4
      | false => lcG iv g t e k (i + 1) σ M2
/-- the same along a list of items -/
def lcL (g : SG) (t : SB) (e : SF) : List D → SD → Mem → Out (List D)
  | [], _, M => .ok [] M
  | x :: xs, σ, M => (g x σ M).bind fun σ1 M1 => (t σ1 M1).bind fun b M2 => match b with
    | true => (e σ1 M2).bind fun y M3 => (lcL g t e xs σ M3).bind fun ys M4 => .ok (y :: ys) M4
    | false => lcL g t e xs σ M2
theorem lcL_G {g : SG} {t : SB} {e : SF} {xs : List D} : ∀ (ys : List D) (i : Nat) (σ : SD) (M : Mem), xs.drop i = ys → i ≤ xs.length → lcG (.st xs) g t e (ys.length + 1) i σ M = lcL g t e ys σ M
  | [], i, σ, M, h, hi => by
    have : xs.length ≤ i := by simpa using h
    unfold lcG ivAt lcL
    simp only [if_pos hi, List.getElem?_eq_none this]
  | y :: ys, i, σ, M, h, hi => by
    have hlt : i < xs.length := by
      refine Nat.lt_of_not_le fun z => ?_
      rw [List.drop_eq_nil_of_le z] at h; cases h
    have e1 : xs[i]? = some y := by
      rw [List.drop_eq_getElem_cons hlt] at h
      injection h with h1 h2
      rw [List.getElem?_eq_getElem hlt, h1]
    have e2 : xs.drop (i + 1) = ys := by
      rw [List.drop_eq_getElem_cons hlt] at h
      injection h with h1 h2
    have ih := fun σ M => lcL_G (g := g) (t := t) (e := e) ys (i + 1) σ M e2 hlt
    show lcG (.st xs) g t e (ys.length + 1 + 1) i σ M = _
    rw [lcG, lcL]
    simp only [ivAt, if_pos hi, e1, ih]
/-- a numbered list grows, from turn i on -/
def lcN (iv : IV) (g : SG) (t : SB) (e : SF) (n : Nat) : Nat → Nat → SD → Mem → Out Unit
  | 0, _, _, _ => .bad
  | k + 1, i, σ, M => match ivAt iv i M with
    | none => .bad
    | some none => .ok () M
    | some (some x) => (g x σ M).bind fun σ1 M1 => (t σ1 M1).bind fun b M2 => match b with
      | true => (e σ1 M2).bind fun y M3 => match M3[n]? with
        | some (.lst acc) => if acc.length < 16777216 then lcN iv g t e n k (i + 1) σ (M3.set n (.lst (acc ++ [y]))) else .bad
        | _ => .bad
      | false => lcN iv g t e n k (i + 1) σ M2
def lcRun (iv : IV) (g : SG) (t : SB) (e : SF) (σ : SD) (M : Mem) : Out (List D) := match iv with
  | .st xs => lcL g t e xs σ M
  | iv => lcG iv g t e (ivLen iv M + 1) 0 σ M
theorem lcRun_eq {iv : IV} {g : SG} {t : SB} {e : SF} {σ : SD} {M : Mem} : lcRun iv g t e σ M = lcG iv g t e (ivLen iv M + 1) 0 σ M := by
  cases iv with
  | st xs => exact (lcL_G xs 0 σ M rfl (Nat.zero_le _)).symm
  | lv n => rfl
  | pv a b => rfl
def fLc (vs : List Nat) (fi : SI) (g : SG) (t : SB) (e : SF) : SF := fun σ M => (fi σ M).bind fun iv M1 => if ivLen iv M1 < 16777216 then (lcRun iv g t e (wipeD σ vs) M1).nox.bind fun ys M2 => .ok (.lst ys) M2 else .bad
def fLcN (vs : List Nat) (fi : SI) (g : SG) (t : SB) (e : SF) : SF := fun σ M => (fi σ M).bind fun iv M1 => (lcN iv g t e M1.length (ivLen iv M1 + 1) 0 (wipeD σ vs) (M1 ++ [.lst []])).nox.bind fun _ M2 => .ok (.ref M1.length) M2
section
variable {X : Cx} {E : XK}
theorem nox_bind {α β : Type} {x : Out α} {f : α → Mem → Out β} {K : PySem.W.Frag} {mg : Str → Option Value} {ρ : Nu} {H : Hp} {P : β → Mem → Nu → Hp → Prop} (h : Post K mg E ρ H (x.nox.bind f) P) : Post K mg EF ρ H x fun a M ρ' H' => Post K mg E ρ' H' (f a M) P :=
  nox_post (E := E) h.bind
/-- from the heap without the held list to the heap with it -/
theorem Post.hold {K : PySem.W.Frag} {mg : Str → Option Value} {ρ : Nu} {H : Hp} {p : Addr} {us : List V} {α : Type} {x : Out α} {P : α → Mem → Nu → Hp → Prop} (h : H p = some (.lst us)) (hp : p ∉ ρ.res) (hn : p ∉ ρ.num) (q : Post K mg EF ρ (er H p) x P) :
    Post K mg EF (ρ.hold p) H x fun a M ρ' H' => ∃ ρ3, ρ' = ρ3.hold p ∧ p ∉ ρ3.res ∧ H' p = some (.lst us) ∧ Ext ρ (er H p) ρ3 (er H' p) ∧ P a M ρ3 (er H' p) := by
  cases x with
  | bad => exact q
  | ok a M =>
    intro ρ' H' x R
    obtain ⟨e1, x1⟩ := x.er (by rw [h]; simp)
    have hk : H' p = some (.lst us) := x.keep p _ h (.inl hn)
    have R' := R
    rw [e1] at R'
    exact ⟨_, e1, hp, hk, x1, q _ _ x1 (R'.er hk hp)⟩
  | exc n fs M =>
    intro ρ' H' x R C d vs m1 m2 m3 m4
    obtain ⟨e1, x1⟩ := x.er (by rw [h]; simp)
    have hk : H' p = some (.lst us) := x.keep p _ h (.inl hn)
    have R' := R
    rw [e1] at R' m4
    have hd : d ≠ p := ne_of m2 hk (by simp)
    exact q _ _ x1 (R'.er hk hp) C d vs m1 (by rw [er_ne hd]; exact m2) m3 (m4.er hk)
theorem Ext.unhold {ρ1 ρ2 : Nu} {H1 H : Hp} {p : Addr} {o : HO} (x : Ext ρ1 H1 ρ2 (KP.er H p)) (h : H p = some o) : Ext ρ1 H1 ρ2 H := by
  have := x.trans (Ext.laid (ρ := ρ2) (H := KP.er H p) (p := p) (o := o) er_same)
  rw [upd_er h] at this
  exact this
theorem ExtR.of_hold {ρ1 ρ2 : Nu} {H1 H : Hp} {p : Addr} {o : HO} (x : Ext ρ1 H1 ρ2 (KP.er H p)) (h : H p = some o) (h1 : H1 p = none) : ExtR ρ1 H1 (ρ2.hold p) H := by
  have y := x.unhold h
  refine ⟨y.pre, fun b hb => ?_, y.keep⟩
  rcases List.mem_cons.mp hb with e | hb
  · exact .inr (by rw [e]; exact h1)
  · exact .inl (by rw [← y.res]; exact hb)
/-- the reading of a list comprehension whose result has no number -/
theorem tLc_of {vs vsg : List Nat} {fi : SI} {g : SG} {t : SB} {e : SF} {σ : L2.St} {H : Hp} {Q : VK} (hv : ∀ i ∈ vsg, i ∈ vs) (h : tE X.K X.mg E (fLc vs fi g t e) σ H Q) :
    tLc (tI X.K X.mg E fi) (tG X.K X.mg EF vsg g) (tT X.K X.mg EF t) (tE X.K X.mg EF e) vs σ H Q := by
  obtain ⟨ρ, M, σd, R, en, hp⟩ := h
  refine ⟨ρ, M, σd, R, en, hp.bind.imp fun iv M1 ρ1 H1 x1 R1 hp1 J hJ => ?_⟩
  split at hp1
  · rename_i hlen
    rw [lcRun_eq] at hp1
    have hp2 := nox_bind hp1
    intro p hD
    have en1 := (en.ext R x1).wipe vs
    have R1h := R1.hold (o := .lst []) hD
    have pr := R1.free hD
    refine ⟨fun i m H => ∃ ρ2 M2 acc us, H p = some (.lst us) ∧ p ∉ ρ2.res ∧ Rep X.K (ρ2.hold p) M2 H ∧ EnvD X.K (ρ2.hold p) H (wipeD σd vs) (L2.wipe σ vs) ∧ Dens X.K (ρ2.hold p) H acc us ∧ Ext ρ1 H1 ρ2 (er H p) ∧ acc.length ≤ i ∧ i + m = ivLen iv M1 + 1 ∧
        Post X.K X.mg EF ρ2 (er H p) (lcG iv g t e m i (wipeD σd vs) M2) (fun ys M' ρ' H' => Post X.K X.mg E ρ' H' (.ok (.lst (acc ++ ys)) M') fun d _ ρ' H' => ∀ v, Den X.K ρ' H' d v → Q v H'),
      ⟨ivLen iv M1 + 1, ρ1, M1, [], [], upd_same, pr, R1h, ⟨en1.len, fun i d ed => ?_⟩, .nil, by rw [er_upd hD]; exact .refl, Nat.zero_le _, by omega, by rw [er_upd hD]; exact hp2⟩, ?_⟩
    · obtain ⟨v, ev, r⟩ := en1.get i d ed
      exact ⟨v, ev, r.hold hD⟩
    rintro i m H2 ⟨ρ2, M2, acc, us, hus, pr2, R2, en2, da, x2, hai, him, hp3⟩
    have pn : p ∉ ρ2.num := (R2.held p List.mem_cons_self).2
    have xR := ExtR.of_hold x2 hus hD
    cases m with
    | zero => exact (show False from hp3).elim
    | succ m =>
      unfold lcG at hp3
      split at hp3
      · exact (show False from hp3).elim
      · rename_i eiv
        refine .inl ⟨ivAt_none hJ xR R2 eiv, ?_⟩
        have hp4 := Post.here hp3 (R2.er hus pr2)
        rw [List.append_nil] at hp4
        have xl : Ext ρ2 (er H2 p) ρ2 H2 := Ext.unhold .refl hus
        exact hp4 ρ2 H2 xl (R2.freeR rfl fun b hb => List.mem_cons_of_mem _ hb) (.ref p) (.lst pn pr2 hus (Dens.free (ρ := ρ2.hold p) (ρ' := ρ2) rfl (fun b hb => List.mem_cons_of_mem _ hb) da))
      · rename_i x eiv
        obtain ⟨hgo, hyl⟩ := ivAt_some hJ xR R2 eiv
        refine .inr ⟨hgo, fun H => ∃ ρ2 M2 acc us, H p = some (.lst us) ∧ p ∉ ρ2.res ∧ Rep X.K (ρ2.hold p) M2 H ∧ EnvD X.K (ρ2.hold p) H (wipeD σd vs) (L2.wipe σ vs) ∧ Dens X.K (ρ2.hold p) H acc us ∧ Ext ρ1 H1 ρ2 (er H p) ∧ acc.length ≤ i + 1 ∧
            Post X.K X.mg EF ρ2 (er H p) (lcG iv g t e m (i + 1) (wipeD σd vs) M2) (fun ys M' ρ' H' => Post X.K X.mg E ρ' H' (.ok (.lst (acc ++ ys)) M') fun d _ ρ' H' => ∀ v, Den X.K ρ' H' d v → Q v H'),
          fun H' ⟨ρ3, M3, acc3, us3, a1, a2, a3, a4, a5, a6, a7, a8⟩ => ⟨m, Nat.lt_succ_self m, ρ3, M3, acc3, us3, a1, a2, a3, a4, a5, a6, a7, by omega, a8⟩, fun w H3 y => ?_⟩
        obtain ⟨x3, R3, rx⟩ := hyl w H3 y
        have hus3 : H3 p = some (.lst us) := x3.keep p _ hus (.inl pn)
        have x3e : Ext ρ2 (er H2 p) ρ2 (er H3 p) := (x3.er (by rw [hus]; simp)).2
        have en3 := en2.ext R2 x3
        have da3 := da.ext R2 x3
        have hp4 := Post.hold hus3 pr2 pn (Post.from hp3 x3e).bind
        refine ⟨ρ2.hold p, M2, wipeD σd vs, x, R3, en3, rx, hp4.imp fun σ4 M4 ρ4h H4 x4 R4 q4 σ' en' off => ?_⟩
        obtain ⟨ρ4, e4, pr4, hus4, x4e, hp5⟩ := q4
        subst e4
        refine ⟨(wipe_off (off.sub hv)).trans wipe_wipe, ?_⟩
        have pn4 : p ∉ ρ4.num := (R4.held p List.mem_cons_self).2
        refine ⟨ρ4.hold p, M4, σ4, R4, en', (Post.hold hus4 pr4 pn4 hp5.bind).imp fun b M5 ρ5h H5 x5 R5 q5 => ?_⟩
        obtain ⟨ρ5, e5, pr5, hus5, x5e, hp6⟩ := q5
        subst e5
        have pn5 : p ∉ ρ5.num := (R5.held p List.mem_cons_self).2
        have en5 := (en3.ext R3 x4).ext R4 x5
        have da5 := (da3.ext R3 x4).ext R4 x5
        have x15 := ((x2.trans x3e).trans x4e).trans x5e
        cases b with
        | false =>
          rw [if_neg Bool.false_ne_true]
          exact ⟨ρ5, M5, acc, us, hus5, pr5, R5, en5, da5, x15, by omega, hp6⟩
        | true =>
          rw [if_pos rfl]
          refine ⟨ρ5.hold p, M5, σ4, R5, en'.ext R4 x5, (Post.hold hus5 pr5 pn5 hp6.bind).imp fun yd M6 ρ6h H6 x6 R6 q6 yv ry => ?_⟩
          obtain ⟨ρ6, e6, pr6, hus6, x6e, hp7⟩ := q6
          subst e6
          have en6 := en5.ext R5 x6
          have da6 := da5.ext R5 x6
          refine ⟨us, hus6, by
            rw [← da6.length]
            have : ivLen iv M1 < 16777216 := hlen
            show acc.length < sizeLine
            have h2 : acc.length < 16777216 := by omega
            exact h2, ρ6, M6, acc ++ [yd], us ++ [yv], upd_same, pr6, R6.heldW List.mem_cons_self hus6, ⟨en6.len, fun i d ed => ?_⟩, (da6.append (.cons ry .nil)).held List.mem_cons_self hus6, by rw [er_updw]; exact x15.trans x6e, by simp; omega, ?_⟩
          · obtain ⟨v, ev, r⟩ := en6.get i d ed
            exact ⟨v, ev, r.held List.mem_cons_self hus6⟩
          · rw [er_updw]
            refine hp7.bind.imp fun ys M7 ρ7 H7 x7 R7 q7 => ?_
            rw [List.append_assoc]
            exact Post.here q7 R7
  · exact hp1.elim

theorem je_lc {vsg : List Nat} {elt tg iter : Expr} {ifs : List Expr} {scope : Scope} {own : List (Str × Nat)} {pos : Pos} {fi : SI} {g : SG} {t : SB} {e : SF} (hc : X.calm = true) (hN : X.N.Nodup) (hi : JI X E tg iter fi) (ok : BlkOk X.N X.env.scope scope own) (hv : ∀ i ∈ vsg, i ∈ own.map (·.2))
    (hg : ∀ (s : Shared) (H : Hp) (C : Addr) (cl : List (Str × Addr)) (fp : List Addr), JG (X.blk s H scope (compEnvC scope cl C X.env) fp) EF vsg tg g) (ht : ∀ (s : Shared) (H : Hp) (C : Addr) (cl : List (Str × Addr)) (fp : List Addr), PTs (X.blk s H scope (compEnvC scope cl C X.env) fp) ifs (tT X.K X.mg EF t))
    (he : ∀ (s : Shared) (H : Hp) (C : Addr) (cl : List (Str × Addr)) (fp : List Addr), JE (X.blk s H scope (compEnvC scope cl C X.env) fp) EF elt e) (hs : ∀ x, foldedSetIterable iter X.env x = pure x := by intro _; rfl) :
    JE X E (.ListComp elt [⟨tg, iter, ifs, 0⟩] scope pos) (fLc (own.map (·.2)) fi g t e) :=
  PE.weak (pe_lc hc hN hi ok hg ht he hs) fun σ H Q h => tLc_of hv h
theorem js_setLc {i : Nat} {y : Str} {py : Pos} {vsg : List Nat} {elt tg iter : Expr} {ifs : List Expr} {scope : Scope} {own : List (Str × Nat)} {pos spos : Pos} {fi : SI} {g : SG} {t : SB} {e : SF} (hc : X.calm = true) (hN : X.N.Nodup) (hy : X.N[i]? = some y) (hyl : X.env.scope.names.lookup y = some .local)
    (hsw : swapsWith (.ListComp elt [⟨tg, iter, ifs, 0⟩] scope pos) (some (.Name y py)) spos.line X.env = pure true) (hi : JI X E tg iter fi) (ok : BlkOk X.N X.env.scope scope own) (hv : ∀ i ∈ vsg, i ∈ own.map (·.2))
    (hg : ∀ (s : Shared) (H : Hp) (C : Addr) (cl : List (Str × Addr)) (fp : List Addr), JG (X.blk s H scope (compEnvC scope cl C X.env) fp) EF vsg tg g) (ht : ∀ (s : Shared) (H : Hp) (C : Addr) (cl : List (Str × Addr)) (fp : List Addr), PTs (X.blk s H scope (compEnvC scope cl C X.env) fp) ifs (tT X.K X.mg EF t))
    (he : ∀ (s : Shared) (H : Hp) (C : Addr) (cl : List (Str × Addr)) (fp : List Addr), JE (X.blk s H scope (compEnvC scope cl C X.env) fp) EF elt e) (hs : ∀ x, foldedSetIterable iter X.env x = pure x := by intro _; rfl) :
    JS X E (.Assign [.Name y py] (.ListComp elt [⟨tg, iter, ifs, 0⟩] scope pos) spos) (sAsg (fLc (own.map (·.2)) fi g t e) (gSet i)) := by
  refine PS.weak (ps_setLc (wi := tI X.K X.mg E fi) (g := tG X.K X.mg EF vsg g) (tt := tT X.K X.mg EF t) (te := tE X.K X.mg EF e) hc hN hy hyl hsw hi ok hg ht he hs) fun D σ H ⟨ρ, M, σd, R, en, hp⟩ => ?_
  exact tLc_of (E := E) hv ⟨ρ, M, σd, R, en, hp.bind.imp fun d M1 ρ1 H1 x1 R1 hp1 v rv => hp1.here R1 _ ((en.ext R x1).set i rv)⟩
/-- the tests of a clause -/
def bYes : SB := fun _ M => .ok true M
theorem jts_nil : PTs X [] (tT X.K X.mg E bYes) := ⟨fun pins s σ H Q I ⟨ρ, M, σd, R, en, hp⟩ => pts_nil.run pins s σ H Q I (hp.here R)⟩
theorem jts_one {c : Expr} {t : SB} (h : JT X E c t) : PTs X [c] (tT X.K X.mg E t) := pts_one h

/-! ### a numbered list made by a comprehension -/
theorem tLcN_of {vs vsg : List Nat} {fi : SI} {g : SG} {t : SB} {e : SF} {σ : L2.St} {H : Hp} {Q : VK} (hv : ∀ i ∈ vsg, i ∈ vs) (h : tE X.K X.mg E (fLcN vs fi g t e) σ H Q) :
    tLc (tI X.K X.mg E fi) (tG X.K X.mg EF vsg g) (tT X.K X.mg EF t) (tE X.K X.mg EF e) vs σ H Q := by
  obtain ⟨ρ, M, σd, R, en, hp⟩ := h
  refine ⟨ρ, M, σd, R, en, hp.bind.imp fun iv M1 ρ1 H1 x1 R1 hp1 J hJ => ?_⟩
  have hp2 := nox_bind hp1
  intro p hD
  have en1 := (en.ext R x1).wipe vs
  have xn : Ext ρ1 H1 (ρ1.push p) (upd H1 p (.lst [])) := .new hD
  have Rn := R1.new (o := .lst []) (u := .lst []) hD ⟨[], upd_same, .nil⟩
  have ixp : (ρ1.push p).num[M1.length]? = some p := by simp [Nu.push, ← R1.len]
  refine ⟨fun i m H => ∃ ρ2 M2, Rep X.K ρ2 M2 H ∧ EnvD X.K ρ2 H (wipeD σd vs) (L2.wipe σ vs) ∧ Ext (ρ1.push p) (upd H1 p (.lst [])) ρ2 H ∧
      Post X.K X.mg EF ρ2 H (lcN iv g t e M1.length m i (wipeD σd vs) M2) (fun _ M' ρ' H' => Post X.K X.mg E ρ' H' (.ok (.ref M1.length) M') fun d _ ρ' H' => ∀ v, Den X.K ρ' H' d v → Q v H'),
    ⟨ivLen iv M1 + 1, ρ1.push p, M1 ++ [.lst []], Rn, en1.ext R1 xn, .refl, Post.from hp2 xn⟩, ?_⟩
  rintro i m H2 ⟨ρ2, M2, R2, en2, x2, hp3⟩
  have xR := (xn.trans x2).toR
  cases m with
  | zero => exact (show False from hp3).elim
  | succ m =>
    unfold lcN at hp3
    split at hp3
    · exact (show False from hp3).elim
    · rename_i eiv
      exact .inl ⟨ivAt_none hJ xR R2 eiv, (Post.here hp3 R2).here R2 (.ref p) (.ref (x2.get ixp))⟩
    · rename_i x eiv
      obtain ⟨hgo, hyl⟩ := ivAt_some hJ xR R2 eiv
      refine .inr ⟨hgo, fun H => ∃ ρ2 M2, Rep X.K ρ2 M2 H ∧ EnvD X.K ρ2 H (wipeD σd vs) (L2.wipe σ vs) ∧ Ext (ρ1.push p) (upd H1 p (.lst [])) ρ2 H ∧
          Post X.K X.mg EF ρ2 H (lcN iv g t e M1.length m (i + 1) (wipeD σd vs) M2) (fun _ M' ρ' H' => Post X.K X.mg E ρ' H' (.ok (.ref M1.length) M') fun d _ ρ' H' => ∀ v, Den X.K ρ' H' d v → Q v H'),
        fun H' w => ⟨m, Nat.lt_succ_self m, w⟩, fun w H3 y => ?_⟩
      obtain ⟨x3, R3, rx⟩ := hyl w H3 y
      have en3 := en2.ext R2 x3
      refine ⟨ρ2, M2, wipeD σd vs, x, R3, en3, rx, (Post.from hp3 x3).bind.imp fun σ4 M4 ρ4 H4 x4 R4 hp4 σ' en' off => ?_⟩
      refine ⟨(wipe_off (off.sub hv)).trans wipe_wipe, ?_⟩
      refine ⟨ρ4, M4, σ4, R4, en', hp4.bind.imp fun b M5 ρ5 H5 x5 R5 hp5 => ?_⟩
      have en5 := (en3.ext R3 x4).ext R4 x5
      have x15 := ((x2.trans x3).trans x4).trans x5
      cases b with
      | false =>
        dsimp only
        rw [if_neg Bool.false_ne_true]
        exact ⟨ρ5, M5, R5, en5, x15, hp5⟩
      | true =>
        dsimp only
        rw [if_pos rfl]
        refine ⟨ρ5, M5, σ4, R5, en'.ext R4 x5, hp5.bind.imp fun yd M6 ρ6 H6 x6 R6 hp6 yv ry => ?_⟩
        have x16 := x15.trans x6
        split at hp6
        · rename_i acc hacc
          split at hp6
          · rename_i hl
            have ix6 := x16.get ixp
            obtain ⟨us, h1, da⟩ := R6.obj _ _ _ ix6 hacc
            have xw : Ext ρ6 H6 ρ6 (upd H6 p (.lst (us ++ [yv]))) := .write (List.mem_of_getElem? ix6) (nfz h1)
            exact ⟨us, h1, by rw [← da.length]; exact hl, ρ6, _, R6.write (o := .lst (acc ++ [yd])) ix6 (nfz h1) ⟨_, upd_same, (da.append (.cons ry .nil)).ext R6 xw⟩, (en5.ext R5 x6).ext R6 xw, x16.trans xw, Post.from hp6 xw⟩
          · exact hp6.elim
        · exact hp6.elim
theorem je_lcN {vsg : List Nat} {elt tg iter : Expr} {ifs : List Expr} {scope : Scope} {own : List (Str × Nat)} {pos : Pos} {fi : SI} {g : SG} {t : SB} {e : SF} (hc : X.calm = true) (hN : X.N.Nodup) (hi : JI X E tg iter fi) (ok : BlkOk X.N X.env.scope scope own) (hv : ∀ i ∈ vsg, i ∈ own.map (·.2))
    (hg : ∀ (s : Shared) (H : Hp) (C : Addr) (cl : List (Str × Addr)) (fp : List Addr), JG (X.blk s H scope (compEnvC scope cl C X.env) fp) EF vsg tg g) (ht : ∀ (s : Shared) (H : Hp) (C : Addr) (cl : List (Str × Addr)) (fp : List Addr), PTs (X.blk s H scope (compEnvC scope cl C X.env) fp) ifs (tT X.K X.mg EF t))
    (he : ∀ (s : Shared) (H : Hp) (C : Addr) (cl : List (Str × Addr)) (fp : List Addr), JE (X.blk s H scope (compEnvC scope cl C X.env) fp) EF elt e) (hs : ∀ x, foldedSetIterable iter X.env x = pure x := by intro _; rfl) :
    JE X E (.ListComp elt [⟨tg, iter, ifs, 0⟩] scope pos) (fLcN (own.map (·.2)) fi g t e) :=
  PE.weak (pe_lc hc hN hi ok hg ht he hs) fun σ H Q h => tLcN_of hv h
theorem js_setLcN {i : Nat} {y : Str} {py : Pos} {vsg : List Nat} {elt tg iter : Expr} {ifs : List Expr} {scope : Scope} {own : List (Str × Nat)} {pos spos : Pos} {fi : SI} {g : SG} {t : SB} {e : SF} (hc : X.calm = true) (hN : X.N.Nodup) (hy : X.N[i]? = some y) (hyl : X.env.scope.names.lookup y = some .local)
    (hsw : swapsWith (.ListComp elt [⟨tg, iter, ifs, 0⟩] scope pos) (some (.Name y py)) spos.line X.env = pure true) (hi : JI X E tg iter fi) (ok : BlkOk X.N X.env.scope scope own) (hv : ∀ i ∈ vsg, i ∈ own.map (·.2))
    (hg : ∀ (s : Shared) (H : Hp) (C : Addr) (cl : List (Str × Addr)) (fp : List Addr), JG (X.blk s H scope (compEnvC scope cl C X.env) fp) EF vsg tg g) (ht : ∀ (s : Shared) (H : Hp) (C : Addr) (cl : List (Str × Addr)) (fp : List Addr), PTs (X.blk s H scope (compEnvC scope cl C X.env) fp) ifs (tT X.K X.mg EF t))
    (he : ∀ (s : Shared) (H : Hp) (C : Addr) (cl : List (Str × Addr)) (fp : List Addr), JE (X.blk s H scope (compEnvC scope cl C X.env) fp) EF elt e) (hs : ∀ x, foldedSetIterable iter X.env x = pure x := by intro _; rfl) :
    JS X E (.Assign [.Name y py] (.ListComp elt [⟨tg, iter, ifs, 0⟩] scope pos) spos) (sAsg (fLcN (own.map (·.2)) fi g t e) (gSet i)) := by
  refine PS.weak (ps_setLc (wi := tI X.K X.mg E fi) (g := tG X.K X.mg EF vsg g) (tt := tT X.K X.mg EF t) (te := tE X.K X.mg EF e) hc hN hy hyl hsw hi ok hg ht he hs) fun D σ H ⟨ρ, M, σd, R, en, hp⟩ => ?_
  exact tLcN_of (E := E) hv ⟨ρ, M, σd, R, en, hp.bind.imp fun d M1 ρ1 H1 x1 R1 hp1 v rv => hp1.here R1 _ ((en.ext R x1).set i rv)⟩
end
end KP

/-! contexts, defs, calls of defs -/
namespace KP
open PySem PySem.Spec PyProof.Rows L2

/-! ### nothing in it leads to the memory -/
mutual
def D.pure : D → Bool
  | .tup xs => D.pures xs
  | .lst xs => D.pures xs
  | .fl xs => D.pures xs
  | .ref _ => false
  | _ => true
def D.pures : List D → Bool
  | [] => true
  | x :: xs => D.pure x && D.pures xs
end
def MO.pure : MO → Bool
  | .lst xs => D.pures xs
  | .dct kvs => D.pures (kvs.map (·.2))
  | .dtt kvs => D.pures (kvs.map (·.2))
  | .dctF kvs => D.pures (kvs.map (·.2))
  | .dttF kvs => D.pures (kvs.map (·.2))
section
variable {K : PySem.W.Frag} {ρ ρ' : Nu} {H : Hp}
mutual
theorem Den.back (hs : ∀ a, a ∈ ρ'.num → a ∈ ρ.num) (hr : ∀ a, a ∈ ρ'.res → a ∈ ρ.res) : ∀ {d : D} {v : V}, d.pure = true → Den K ρ H d v → Den K ρ' H d v
  | _, _, _, .non => .non
  | _, _, _, .bl b => .bl b
  | _, _, _, .int i => .int i
  | _, _, _, .str z => .str z
  | _, _, p, .tup h t => .tup h (Dens.back hs hr (by simpa [D.pure] using p) t)
  | _, _, p, .lst h1 h2 h t => .lst (fun z => h1 (hs _ z)) (fun z => h2 (hr _ z)) h (Dens.back hs hr (by simpa [D.pure] using p) t)
  | _, _, p, .fl h t => .fl h (Dens.back hs hr (by simpa [D.pure] using p) t)
  | _, _, p, .ref h => by simp [D.pure] at p
  | _, _, _, .ty n => .ty n
theorem Dens.back (hs : ∀ a, a ∈ ρ'.num → a ∈ ρ.num) (hr : ∀ a, a ∈ ρ'.res → a ∈ ρ.res) : ∀ {ds : List D} {vs : List V}, D.pures ds = true → Dens K ρ H ds vs → Dens K ρ' H ds vs
  | _, _, _, .nil => .nil
  | _, _, p, .cons r t => by
    have p : (D.pure _ && D.pures _) = true := p
    rw [Bool.and_eq_true] at p
    exact .cons (Den.back hs hr p.1 r) (Dens.back hs hr p.2 t)
end
theorem RepO.back (hs : ∀ a, a ∈ ρ'.num → a ∈ ρ.num) (hr : ∀ a, a ∈ ρ'.res → a ∈ ρ.res) {a : Addr} {o : MO} (p : o.pure = true) (h : RepO K ρ H a o) : RepO K ρ' H a o := by
  cases o with
  | lst ds => obtain ⟨vs, e1, t⟩ := h; exact ⟨vs, e1, t.back hs hr p⟩
  | dct kvs => obtain ⟨vs, e1, k, t⟩ := h; exact ⟨vs, e1, k, t.back hs hr p⟩
  | dtt kvs => obtain ⟨vs, e1, k, t⟩ := h; exact ⟨vs, e1, k, t.back hs hr p⟩
  | dctF kvs => obtain ⟨vs, od, e1, k, t⟩ := h; exact ⟨vs, od, e1, k, t.back hs hr p⟩
  | dttF kvs => obtain ⟨vs, od, e1, k, t⟩ := h; exact ⟨vs, od, e1, k, t.back hs hr p⟩
end
/-! ### it leads to the first n objects at most -/
mutual
def D.low (n : Nat) : D → Bool
  | .tup xs => D.lows n xs
  | .lst xs => D.lows n xs
  | .fl xs => D.lows n xs
  | .ref i => decide (i < n)
  | _ => true
def D.lows (n : Nat) : List D → Bool
  | [] => true
  | x :: xs => D.low n x && D.lows n xs
end
def MO.low (n : Nat) : MO → Bool
  | .lst xs => D.lows n xs
  | .dct kvs => D.lows n (kvs.map (·.2))
  | .dtt kvs => D.lows n (kvs.map (·.2))
  | .dctF kvs => D.lows n (kvs.map (·.2))
  | .dttF kvs => D.lows n (kvs.map (·.2))
mutual
theorem D.pure_low {n : Nat} : ∀ {d : D}, d.pure = true → d.low n = true
  | .tup xs, h => by unfold D.pure at h; unfold D.low; exact D.pures_lows h
  | .lst xs, h => by unfold D.pure at h; unfold D.low; exact D.pures_lows h
  | .fl xs, h => by unfold D.pure at h; unfold D.low; exact D.pures_lows h
  | .ref i, h => by simp [D.pure] at h
  | .non, _ => rfl
  | .bl _, _ => rfl
  | .int _, _ => rfl
  | .str _, _ => rfl
  | .ty _, _ => rfl
theorem D.pures_lows {n : Nat} : ∀ {ds : List D}, D.pures ds = true → D.lows n ds = true
  | [], _ => rfl
  | d :: ds, h => by
    have h : (D.pure d && D.pures ds) = true := h
    rw [Bool.and_eq_true] at h
    show (D.low n d && D.lows n ds) = true
    rw [D.pure_low h.1, D.pures_lows h.2]; rfl
end
theorem MO.pure_low {n : Nat} {o : MO} (h : o.pure = true) : o.low n = true := by
  cases o with
  | lst xs => exact D.pures_lows h
  | dct kvs => exact D.pures_lows h
  | dtt kvs => exact D.pures_lows h
  | dctF kvs => exact D.pures_lows h
  | dttF kvs => exact D.pures_lows h
mutual
theorem D.low_mono {n m : Nat} (hm : n ≤ m) : ∀ {d : D}, d.low n = true → d.low m = true
  | .tup xs, h => by unfold D.low at *; exact D.lows_mono hm h
  | .lst xs, h => by unfold D.low at *; exact D.lows_mono hm h
  | .fl xs, h => by unfold D.low at *; exact D.lows_mono hm h
  | .ref i, h => by unfold D.low at *; rw [decide_eq_true_eq] at *; omega
  | .non, _ => rfl
  | .bl _, _ => rfl
  | .int _, _ => rfl
  | .str _, _ => rfl
  | .ty _, _ => rfl
theorem D.lows_mono {n m : Nat} (hm : n ≤ m) : ∀ {ds : List D}, D.lows n ds = true → D.lows m ds = true
  | [], _ => rfl
  | d :: ds, h => by
    have h : (D.low n d && D.lows n ds) = true := h
    rw [Bool.and_eq_true] at h
    show (D.low m d && D.lows m ds) = true
    rw [D.low_mono hm h.1, D.lows_mono hm h.2]; rfl
end
theorem MO.low_mono {n m : Nat} (hm : n ≤ m) {o : MO} (h : o.low n = true) : o.low m = true := by
  cases o with
  | lst xs => exact D.lows_mono hm h
  | dct kvs => exact D.lows_mono hm h
  | dtt kvs => exact D.lows_mono hm h
  | dctF kvs => exact D.lows_mono hm h
  | dttF kvs => exact D.lows_mono hm h
section
variable {K : PySem.W.Frag} {ρ ρ' : Nu} {H : Hp} {n : Nat}
mutual
theorem Den.trim (hs : ∀ i a, i < n → ρ'.num[i]? = some a → ρ.num[i]? = some a) (hq : ∀ a, a ∈ ρ.num → a ∈ ρ'.num) (hr : ∀ a, a ∈ ρ.res → a ∈ ρ'.res) : ∀ {d : D} {v : V}, d.low n = true → Den K ρ' H d v → Den K ρ H d v
  | _, _, _, .non => .non
  | _, _, _, .bl b => .bl b
  | _, _, _, .int i => .int i
  | _, _, _, .str z => .str z
  | _, _, p, .tup h t => .tup h (Dens.trim hs hq hr (by simpa [D.low] using p) t)
  | _, _, p, .lst h1 h2 h t => .lst (fun z => h1 (hq _ z)) (fun z => h2 (hr _ z)) h (Dens.trim hs hq hr (by simpa [D.low] using p) t)
  | _, _, p, .fl h t => .fl h (Dens.trim hs hq hr (by simpa [D.low] using p) t)
  | _, _, p, .ref h => .ref (hs _ _ (by simpa [D.low] using p) h)
  | _, _, _, .ty n => .ty n
theorem Dens.trim (hs : ∀ i a, i < n → ρ'.num[i]? = some a → ρ.num[i]? = some a) (hq : ∀ a, a ∈ ρ.num → a ∈ ρ'.num) (hr : ∀ a, a ∈ ρ.res → a ∈ ρ'.res) : ∀ {ds : List D} {vs : List V}, D.lows n ds = true → Dens K ρ' H ds vs → Dens K ρ H ds vs
  | _, _, _, .nil => .nil
  | _, _, p, .cons r t => by
    have p : (D.low n _ && D.lows n _) = true := p
    rw [Bool.and_eq_true] at p
    exact .cons (Den.trim hs hq hr p.1 r) (Dens.trim hs hq hr p.2 t)
end
theorem RepO.trim (hs : ∀ i a, i < n → ρ'.num[i]? = some a → ρ.num[i]? = some a) (hq : ∀ a, a ∈ ρ.num → a ∈ ρ'.num) (hr : ∀ a, a ∈ ρ.res → a ∈ ρ'.res) {a : Addr} {o : MO} (p : o.low n = true) (h : RepO K ρ' H a o) : RepO K ρ H a o := by
  cases o with
  | lst ds => obtain ⟨vs, e1, t⟩ := h; exact ⟨vs, e1, t.trim hs hq hr p⟩
  | dct kvs => obtain ⟨vs, e1, k, t⟩ := h; exact ⟨vs, e1, k, t.trim hs hq hr p⟩
  | dtt kvs => obtain ⟨vs, e1, k, t⟩ := h; exact ⟨vs, e1, k, t.trim hs hq hr p⟩
  | dctF kvs => obtain ⟨vs, od, e1, k, t⟩ := h; exact ⟨vs, od, e1, k, t.trim hs hq hr p⟩
  | dttF kvs => obtain ⟨vs, od, e1, k, t⟩ := h; exact ⟨vs, od, e1, k, t.trim hs hq hr p⟩
end
/-- what a call has made and nobody holds is forgotten -/
def gc (n : Nat) (d : D) (M : Mem) : Mem := if (d.low n && (M.take n).all (MO.low n)) = true then M.take n else M
theorem gc_post {K : PySem.W.Frag} {mg : Str → Option Value} {E : XK} {ρ : Nu} {H : Hp} {n : Nat} {d : D} {M : Mem} {Q : VK} (hn : ρ.num.length = n) (h : Post K mg E ρ H (.ok d (gc n d M)) fun d _ ρ' H' => ∀ v, Den K ρ' H' d v → Q v H') :
    Post K mg E ρ H (.ok d M) fun d _ ρ' H' => ∀ v, Den K ρ' H' d v → Q v H' := by
  unfold gc at h
  split at h
  · rename_i hp
    rw [Bool.and_eq_true, List.all_eq_true] at hp
    intro ρ' H' x R v r
    obtain ⟨l, e, _⟩ := x.pre
    have hs : ∀ a, a ∈ ρ.num → a ∈ ρ'.num := fun a ha => by rw [e]; exact List.mem_append_left _ ha
    have hr : ∀ a, a ∈ ρ.res → a ∈ ρ'.res := fun a ha => by rw [x.res]; exact ha
    have hM : n ≤ M.length := by
      have := R.len
      rw [e, List.length_append] at this
      omega
    have hx : ∀ i a, i < n → ρ'.num[i]? = some a → ρ.num[i]? = some a := fun i a hi e2 => by
      rw [e, List.getElem?_append_left (by rw [hn]; exact hi)] at e2; exact e2
    refine h ρ H' ⟨⟨[], by simp⟩, rfl, x.keep, x.live⟩ ⟨?_, ?_, fun i a o e1 e2 => ?_, fun z hz => ⟨(R.held z (hr z hz)).1, fun hm => (R.held z (hr z hz)).2 (hs z hm)⟩⟩ v (r.trim hx hs hr hp.1)
    · rw [List.length_take, hn]; omega
    · have := R.nd
      rw [e, List.nodup_append] at this
      exact this.1
    · have hi : i < n := by rw [← hn]; exact (List.getElem?_eq_some_iff.mp e1).1
      have e2' := e2
      rw [List.getElem?_take_of_lt hi] at e2'
      exact (R.obj i a o (x.get e1) e2').trim hx hs hr (hp.2 o (List.mem_of_getElem? e2))
  · exact h

/-! ### a context, told -/
structure Ctx (X : Cx) (E : XK) (N : List Str) (sc : Scope) (ks : List (Option NameKind)) (own : List Nat) (k : Nat) : Prop where
  hN : X.N = N
  hsc : X.env.scope = sc
  nd : N.Nodup
  calm : X.calm = true
  kind0 : sc.kind = .function
  room : Room k X.A
  gd : X.A.guards = some []
  pass : Passes (L2.CX X.prog X.w) X E
  pown : PassesOwn (model X.prog X.w) X.A X.env X.xe
  kinds : N.map (fun x => sc.names.lookup x) = ks
  store : ∀ i ∈ own, ∀ x, N[i]? = some x → Loc sc x ∧ (X.fn x = true ∨ sc.names.lookup x = some .local)
section
variable {X : Cx} {E : XK} {N : List Str} {sc : Scope} {ks : List (Option NameKind)} {own : List Nat} {k : Nat}
theorem Ctx.hu (C : Ctx X E N sc ks own k) : X.A.units + 65 < cLine := by have := C.room.un; omega
theorem Ctx.hu64 (C : Ctx X E N sc ks own k) : X.A.units + 64 < cLine := by have := C.room.un; omega
theorem Ctx.hu0 (C : Ctx X E N sc ks own k) : X.A.units < cLine := by have := C.room.un; omega
theorem Ctx.hu1 (C : Ctx X E N sc ks own k) : X.A.units + 1 < cLine := by have := C.room.un; omega
theorem Ctx.kind (C : Ctx X E N sc ks own k) {i : Nat} {x : Str} (h : N[i]? = some x) : ks[i]? = some (sc.names.lookup x) := by
  rw [← C.kinds, List.getElem?_map, h]; rfl
def visK : Option NameKind → Bool
  | some .local => true
  | some .cell => true
  | some .free => true
  | _ => false
theorem Ctx.vis (C : Ctx X E N sc ks own k) {i : Nat} {x : Str} (h : N[i]? = some x) (hv : (ks[i]?.map visK) = some true) : Vis X.env.scope x := by
  rw [C.kind h] at hv
  rw [C.hsc]
  unfold Vis
  generalize sc.names.lookup x = o at hv ⊢
  cases o with
  | none => cases hv
  | some κ => cases κ <;> first | (cases hv; done) | simp
/-- the name in slot i -/
theorem cv (C : Ctx X E N sc ks own k) (i : Nat) {x : Str} {pos : Pos} (h : N[i]? = some x := by rfl) (hv : (ks[i]?.map visK) = some true := by rfl) (hd : (x == ("__debug__" : Str)) = false := by decide)
    (hcd : (x == ("__classdict__" : Str)) = false := by decide) : JE X E (.Name x pos) (fVar i) := je_var i (by rw [C.hN]; exact h) (C.vis h hv) hd hcd
/-- the target in slot i -/
theorem cg (C : Ctx X E N sc ks own k) (i : Nat) {x : Str} {pos : Pos} (h : N[i]? = some x := by rfl) (ho : i ∈ own := by decide) : JG X E [i] (.Name x pos) (gSet i) := by
  obtain ⟨h1, h2⟩ := C.store i ho x h
  exact jg_name (by rw [C.hN]; exact C.nd) (by rw [C.hN]; exact h) (by rw [C.hsc]; exact h1) (by rw [C.hsc]; exact h2)
theorem cset (C : Ctx X E N sc ks own k) (i : Nat) {x : Str} {e : Expr} {f : SF} {pos pos' : Pos} (he : JE X E e f) (h : N[i]? = some x := by rfl) (ho : i ∈ own := by decide) (hs : swapsWith e (some (.Name x pos')) pos.line X.env = pure false := by rfl) :
    JS X E (.Assign [.Name x pos'] e pos) (sAsg f (gSet i)) := by
  obtain ⟨h1, h2⟩ := C.store i ho x h
  exact js_set (by rw [C.hN]; exact C.nd) (by rw [C.hN]; exact h) (by rw [C.hsc]; exact h1) he hs (by rw [C.hsc]; exact h2)
theorem caug (C : Ctx X E N sc ks own k) (i : Nat) {x : Str} {e : Expr} {f : SF} {op : Operator} {g : D → D → Mem → Out D} {pos pos' : Pos} (ho : OpR X (inplaceOp op) (rD X.K X.mg E g)) (he : JE X E e f) (h : N[i]? = some x := by rfl) (hw : i ∈ own := by decide) :
    JS X E (.AugAssign (.Name x pos') op e pos) (sAug i g f) := by
  obtain ⟨h1, h2⟩ := C.store i hw x h
  exact js_aug (by rw [C.hN]; exact C.nd) (by rw [C.hN]; exact h) (by rw [C.hsc]; exact h1) he ho (by rw [C.hsc]; exact h2)
theorem cpar (C : Ctx X E N sc ks own k) (i j : Nat) {x y : Str} {a b : Expr} {fa : SFs} {px py pt pos : Pos} {kt k2 pt2} (ha : JA X E [a, b] fa) (hi : N[i]? = some x := by rfl) (hj : N[j]? = some y := by rfl) (hij : i ≠ j := by decide)
    (ki : ks[i]? = some (some .local) := by rfl) (kj : ks[j]? = some (some .local) := by rfl)
    (hw : swappedStores [.Tuple [.Name x px, .Name y py] kt pt] (.Tuple [a, b] k2 pt2) X.env = pure (some [x, y]))
    (hs : swapsWithSole [.Tuple [.Name x px, .Name y py] kt pt] (.Tuple [a, b] k2 pt2) pos.line X.env = pure false := by rfl) :
    JS X E (.Assign [.Tuple [.Name x px, .Name y py] kt pt] (.Tuple [a, b] k2 pt2) pos) (sPar i j fa) := by
  have e1 : sc.names.lookup x = some .local := by have := C.kind hi; rw [ki] at this; exact (Option.some.inj this).symm
  have e2 : sc.names.lookup y = some .local := by have := C.kind hj; rw [kj] at this; exact (Option.some.inj this).symm
  exact js_par C.calm (by rw [C.hN]; exact C.nd) (by rw [C.hN]; exact hi) (by rw [C.hN]; exact hj) hij (by rw [C.hsc]; exact e1) (by rw [C.hsc]; exact e2) ha hw hs
/-- a global name -/
theorem Ctx.gl (C : Ctx X E N sc ks own k) {x : Str} (h : sc.names.lookup x = some .globalImplicit) : Gl X x := by
  show X.env.scope.names.lookup x = _
  rw [C.hsc]; exact h
/-- a comprehension's block -/
theorem Ctx.blk (C : Ctx X E N sc ks own k) {scope : Scope} {ks' : List (Option NameKind)} {ow : List (Str × Nat)} (hkd : scope.kind = .function) (hk : N.map (fun x => (relS scope sc).names.lookup x) = ks') (hst : (ow.all fun p => decide (N[p.2]? = some p.1) && (decide (scope.names.lookup p.1 = some .local) || decide (scope.names.lookup p.1 = some .cell))) = true)
    (s : Shared) (H : Hp) (Cc : Addr) (cl : List (Str × Addr)) (fp : List Addr) : Ctx (X.blk s H scope (compEnvC scope cl Cc X.env) fp) EF N (relS scope sc) ks' (ow.map (·.2)) k := by
  have hsc : (compEnvC scope cl Cc X.env).scope = relS scope sc := by rw [← C.hsc]; rfl
  refine ⟨C.hN, hsc, C.nd, C.calm, hkd, C.room, C.gd, fun _ _ _ _ _ _ _ h => ?_, PassesOwn.never, hk, fun i hi x hx => ?_⟩
  · obtain ⟨_, _, _, _, _, _, _, _, _, _, _, _, z⟩ := h
    exact z.elim
  · obtain ⟨p, hp, rfl⟩ := List.mem_map.mp hi
    have h1 := List.all_eq_true.mp hst p hp
    simp only [Bool.and_eq_true, Bool.or_eq_true, decide_eq_true_eq] at h1
    obtain ⟨h2, h3⟩ := h1
    rw [h2] at hx
    cases hx
    rcases h3 with h3 | h3
    · have : (relS scope sc).names.lookup p.1 = some .local := lookup_relS_keep (by decide) h3
      exact ⟨.inl this, .inr this⟩
    · have : (relS scope sc).names.lookup p.1 = some .cell := lookup_relS_keep (by decide) h3
      exact ⟨.inr this, .inl (by show (scope.names.lookup p.1 == some .cell) = true; rw [h3]; rfl)⟩
end

/-! ### defs -/
def fDef (n : Nat) (b : SS) : List D → Mem → Out D := fun ds M => (b (ds.map some ++ List.replicate (n - ds.length) none) M).bind fun fl M1 => match fl with
  | .nx _ => .ok .non (gc M.length .non M1)
  | .rt d => .ok d (gc M.length d M1)
  | _ => .bad
def spD (K : PySem.W.Frag) (mg : Str → Option Value) (n : Nat) (g : List D → Mem → Out D) : Sp := fun vs H Q E => ∃ ρ M ds, Rep K ρ M H ∧ Dens K ρ H ds vs ∧ vs.length = n ∧
  Post K mg E ρ H (g ds M) fun d _ ρ' H' => ∀ v, Den K ρ' H' d v → Q v H'
/-- a def computes g -/
abbrev FnD (P : Program) (w : World) (K : PySem.W.Frag) (mg : Str → Option Value) (base : Heap) (k : Nat) (f : Addr) (fd : FuncData) (ps : List Str) (g : List D → Mem → Out D) : Prop :=
  FnG P w K mg base (L2.CX P w) k f fd ps (spD K mg ps.length g)
theorem Dens.env {K : PySem.W.Frag} {ρ : Nu} {H : Hp} {ds : List D} {vs : List V} (n : Nat) (h : Dens K ρ H ds vs) : EnvD K ρ H (ds.map some ++ List.replicate (n - ds.length) none) (vs.map some ++ List.replicate (n - vs.length) none) := by
  refine ⟨by simp [h.length], fun i d e => ?_⟩
  by_cases hi : i < ds.length
  · rw [List.getElem?_append_left (by simpa using hi), List.getElem?_map] at e
    cases q : ds[i]? with
    | none => rw [q] at e; cases e
    | some d' =>
      rw [q] at e
      cases e
      obtain ⟨v, ev, r⟩ := h.get q
      refine ⟨v, ?_, r⟩
      rw [List.getElem?_append_left (by simp [← h.length, hi]), List.getElem?_map, ev]; rfl
  · rw [List.getElem?_append_right (by simpa using hi), List.getElem?_replicate] at e
    split at e <;> cases e
section
variable {P : Program} {w : World} {K : PySem.W.Frag} {mg : Str → Option Value} {base : Heap}
/-- THE RULE for a def: its body, in any context of its names -/
theorem def_ok {x qual : Str} {st : Stmt} {f : Addr} {fd : FuncData} {N ps : List Str} {k : Nat} {b : SS} {ks : List (Option NameKind)} {own : List Nat} (F : Fun K x qual st f fd) (S : FnScope N ps (defScope st))
    (hk : N.map (fun x => (defScope st).names.lookup x) = ks) (ho : (own.all fun i => match ks[i]? with | some (some .local) => true | some (some .cell) => true | _ => false) = true)
    (hb : ∀ (X : Cx) (E : XK), X.prog = P → X.w = w → X.K = K → X.mg = mg → X.base = base → Ctx X E N (defScope st) ks own k → JSs X E (defBody st) b) : FnD P w K mg base (k + 1) f fd ps (fDef N.length b) := by
  obtain ⟨oc, od, kV, doc, pm, an, cdv, ct, osl, rfl, lk, hcd⟩ := F.ex
  refine fn_ofG lk hcd S (fun vs H Q E ⟨ρ, M, ds, _, _, h, _⟩ => h) fun A outer s H vs Q E gd hr ⟨ρ, M, ds, R, rd, hl, hp⟩ => ?_
  have C : Ctx (cxOf (L2.CX P w) P w K mg base N qual (defScope st) f cdv A outer s H E) E N (defScope st) ks own k := by
    refine ⟨rfl, rfl, S.nd, rfl, S.kind, hr, gd, passes_call (takes_of rfl rfl rfl rfl) fun _ _ _ _ h => h, passes_of rfl, hk, fun i hi x hx => ⟨?_, .inl rfl⟩⟩
    have h1 := List.all_eq_true.mp ho i hi
    rw [← hk, List.getElem?_map, hx, Option.map_some] at h1
    show (defScope st).names.lookup x = some .local ∨ (defScope st).names.lookup x = some .cell
    generalize (defScope st).names.lookup x = o at h1 ⊢
    cases o with
    | none => cases h1
    | some κ => cases κ <;> first | (cases h1; done) | simp
  refine ⟨_, hb _ E rfl rfl rfl rfl rfl C, ?_⟩
  refine ⟨ρ, M, _, R, rd.env N.length, ?_⟩
  unfold fDef at hp
  have hlen : ρ.num.length = M.length := R.len
  cases q : b (ds.map some ++ List.replicate (N.length - ds.length) none) M with
  | bad => rw [q] at hp; exact hp.elim
  | exc n fs M1 => rw [q] at hp; exact hp
  | ok fl M1 =>
    rw [q] at hp
    cases fl with
    | nx σ1 =>
      have h2 := gc_post (d := .non) (Q := Q) hlen hp
      exact fun ρ1 H1 x1 R1 σ' en' => h2 ρ1 H1 x1 R1 _ .non
    | rt d =>
      have h2 := gc_post (d := d) (Q := Q) hlen hp
      exact fun ρ1 H1 x1 R1 v rv => h2 ρ1 H1 x1 R1 v rv
    | bk σ1 => exact (show False from hp).elim
    | ct σ1 => exact (show False from hp).elim
end
section
variable {X : Cx} {E : XK} {N : List Str} {sc : Scope} {ks : List (Option NameKind)} {own : List Nat} {k j : Nat}
/-- a def of the text that is called -/
structure Fn (P : Program) (w : World) (K : PySem.W.Frag) (mg : Str → Option Value) (base : Heap) (k : Nat) (x : Str) (st : Stmt) (ps : List Str) (g : List D → Mem → Out D) (f : Addr) (fd : FuncData) : Prop where
  ok : FnD P w K mg base k f fd ps g
  mg : mg x = some (.ref f)
  kp : PySem.W.keepIn K (.ref f) = true
  bd : Binds K fd ps []
  src : ∃ (q : Str) (kV doc pm : Value) (an : Option Addr) (cdv ct : Value), fd = PySem.W.fnOf q q (defArgs st) (defBody st) (defScope st) .none kV doc pm an cdv ct
  lk : ∃ (oc : Value) (od : Option Addr) (osl : Array (Option Value)), K.lookup f = some ⟨oc, od, .func fd, osl⟩
def Has (P : Program) (w : World) (K : PySem.W.Frag) (mg : Str → Option Value) (base : Heap) (k : Nat) (x : Str) (st : Stmt) (ps : List Str) (g : List D → Mem → Out D) : Prop := ∃ f fd, Fn P w K mg base k x st ps g f fd
/-- a call of a def with so many arguments -/
def fCallD (m : Nat) (g : List D → Mem → Out D) (fa : SFs) : SF := fun σ M => (fa σ M).bind fun ds M1 => if ds.length = m then g ds M1 else .bad
theorem tCall_of {m : Nat} {g : List D → Mem → Out D} {fa : SFs} {σ : L2.St} {H : Hp} {Q : VK} (h : tE X.K X.mg E (fCallD m g fa) σ H Q) : tCall (spD X.K X.mg m g) [] E (tA X.K X.mg E fa) σ H Q := by
  obtain ⟨ρ, M, σd, R, en, hp⟩ := h
  refine ⟨ρ, M, σd, R, en, hp.bind.imp fun ds M1 ρ1 H1 x1 R1 hp1 vs rvs => ?_⟩
  split at hp1
  · rename_i hl
    refine ⟨ρ1, M1, ds, R1, by rw [List.append_nil]; exact rvs, ?_, hp1⟩
    rw [List.append_nil, ← rvs.length, hl]
  · exact hp1.elim
theorem ccall (C : Ctx X E N sc ks own k) {x : Str} {ps : List Str} {g : List D → Mem → Out D} {fa : SFs} {e : Expr} {es : List Expr} {p pos : Pos} {st : Stmt} (F : Has X.prog X.w X.K X.mg X.base j x st ps g) (ha : JA X E (e :: es) fa) (hj : j ≤ k := by decide) (hg : sc.names.lookup x = some .globalImplicit := by decide +kernel)
    (hdb : (x == ("__debug__" : Str)) = false := by decide +kernel) (he : starEach (e :: es) X.env = (false, eval e X.env) :: starEach es X.env := by rfl) (hpl : (backTo pos (starEach es X.env)).any (·.1) = false := by rfl) :
    JE X E (.Call (.Name x p) (e :: es) [] pos) (fCallD ps.length g fa) := by
  obtain ⟨f, fd, F⟩ := F
  exact PE.weak (pe_callG (E := E) F.ok C.gd (C.room.mono hj) (C.gl hg) F.mg F.kp F.bd .nil C.pass ha hdb he hpl) fun σ H Q h => tCall_of h
theorem ccall0 (C : Ctx X E N sc ks own k) {x : Str} {g : List D → Mem → Out D} {p pos : Pos} {st : Stmt} (F : Has X.prog X.w X.K X.mg X.base j x st [] g) (hj : j ≤ k := by decide) (hg : sc.names.lookup x = some .globalImplicit := by decide +kernel)
    (hdb : (x == ("__debug__" : Str)) = false := by decide +kernel) :
    JE X E (.Call (.Name x p) [] [] pos) (fCallD 0 g fsNil) := by
  obtain ⟨f, fd, F⟩ := F
  refine PE.weak (pe_callG0 (E := E) F.ok C.gd (C.room.mono hj) (C.gl hg) F.mg F.kp F.bd .nil C.pass hdb) fun σ H Q ⟨ρ, M, σd, R, en, hp⟩ => ?_
  exact ⟨ρ, M, [], R, .nil, rfl, hp⟩
end
end KP

/-! methods of what is built in, sorted -/
namespace KP
open PySem PySem.Spec PyProof.Rows L2

/-- what type a receiver has -/
def tyM (d : D) (M : Mem) : Option String := match d with
  | .str _ => some "str"
  | .int _ => some "int"
  | .lst _ => some "list"
  | .fl _ => some "list"
  | .ref n => match M[n]? with
    | some (.lst _) => some "list"
    | some (.dct _) => some "dict"
    | some (.dtt _) => some "dict"
    | _ => none
  | _ => none
def rM (K : PySem.W.Frag) (mg : Str → Option Value) (E : XK) (g : D → List D → Mem → Out D) : V → List V → Hp → VK → Prop := fun x xs H Q => ∃ ρ M d ds, Rep K ρ M H ∧ Den K ρ H d x ∧ Dens K ρ H ds xs ∧
  Post K mg E ρ H (g d ds M) fun d _ ρ' H' => ∀ v, Den K ρ' H' d v → Q v H'
def fMt (T : String) (g : D → List D → Mem → Out D) (fo : SF) (fa : SFs) : SF := fun σ M => (fo σ M).bind fun o M1 => if tyM o M1 = some T then (fa σ M1).bind fun ds M2 => g o ds M2 else .bad
theorem tyM_ok {K : PySem.W.Frag} {ρ : Nu} {M : Mem} {H : Hp} {d : D} {v : V} {T : String} (R : Rep K ρ M H) (r : Den K ρ H d v) (h : tyM d M = some T) : tyV K T v H := by
  cases r with
  | str x => cases h; rfl
  | int i => cases h; rfl
  | lst h1 h2 hs t => cases h; exact .inl ⟨rfl, _, .of hs⟩
  | fl hs t => cases h; exact .inl ⟨rfl, _, hs.sq⟩
  | ref hr =>
    unfold tyM at h
    dsimp only at h
    split at h
    · rename_i xs e
      cases h
      obtain ⟨vs, h1, _⟩ := R.obj _ _ _ hr e
      exact .inl ⟨rfl, _, .of h1⟩
    · rename_i kvs e
      cases h
      obtain ⟨vs, h1, _⟩ := R.obj _ _ _ hr e
      exact .inr (.inr (.inl ⟨rfl, .inl ⟨_, h1⟩⟩))
    · rename_i kvs e
      cases h
      obtain ⟨vs, h1, _⟩ := R.obj _ _ _ hr e
      exact .inr (.inr (.inl ⟨rfl, .inr ⟨_, h1⟩⟩))
    · cases h
  | _ => cases h
section
variable {X : Cx} {E : XK}
theorem je_bm {T id : String} {name : Str} {o e : Expr} {es : List Expr} {g : D → List D → Mem → Out D} {fo : SF} {fa : SFs} {apos cpos : Pos} (pa : PlainAttrs T) (slot : Slot T name id) (hty : typeOf (.builtin id) = pure (.type "method_descriptor")) (hm : MtR X id (rM X.K X.mg E g)) (ho : JE X E o fo) (ha : JA X E (e :: es) fa)
    (hbase : attributeBase o name X.env (eval o X.env) = eval o X.env := by rfl)
    (hfew : ((backTo cpos (starEach (e :: es) X.env)).all (fun x => !x.1) && (backToKw cpos (keywordEach [] X.env)).all (fun x => x.1.isSome)
      && decide ((e :: es).length + ([] : List Keyword).length + (if ([] : List Keyword).isEmpty then 0 else 1) < 30)) = true := by rfl)
    (hline : (apos.endLine == cpos.line) = true := by rfl) (hs : starEach (e :: es) X.env = (false, eval e X.env) :: starEach es X.env := by rfl) (hplain : (backTo cpos (starEach es X.env)).any (·.1) = false := by rfl) :
    JE X E (.Call (.Attribute o name apos) (e :: es) [] cpos) (fMt T g fo fa) := by
  refine PE.weak (pe_bm pa slot hty hm ho ha hbase hfew hline hs hplain) fun σ H Q ⟨ρ, M, σd, R, en, hp⟩ => ⟨ρ, M, σd, R, en, hp.bind.imp fun d M1 ρ1 H1 x1 R1 hp1 v rv => ?_⟩
  split at hp1
  · rename_i ht
    refine ⟨tyM_ok R1 rv ht, ρ1, M1, σd, R1, en.ext R x1, hp1.bind.imp fun ds M2 ρ2 H2 x2 R2 hp2 vs rvs => ?_⟩
    exact ⟨ρ2, M2, d, ds, R2, rv.ext R1 x2, rvs, hp2⟩
  · exact hp1.elim
theorem je_bm0 {T id : String} {name : Str} {o : Expr} {g : D → List D → Mem → Out D} {fo : SF} {apos cpos : Pos} (pa : PlainAttrs T) (slot : Slot T name id) (hty : typeOf (.builtin id) = pure (.type "method_descriptor")) (hm : MtR X id (rM X.K X.mg E g)) (ho : JE X E o fo)
    (hbase : attributeBase o name X.env (eval o X.env) = eval o X.env := by rfl) (hline : (apos.endLine == cpos.line) = true := by rfl) :
    JE X E (.Call (.Attribute o name apos) [] [] cpos) (fMt T g fo fsNil) := by
  refine PE.weak (pe_bm0 pa slot hty hm ho hbase hline) fun σ H Q ⟨ρ, M, σd, R, en, hp⟩ => ⟨ρ, M, σd, R, en, hp.bind.imp fun d M1 ρ1 H1 x1 R1 hp1 v rv => ?_⟩
  split at hp1
  · rename_i ht
    exact ⟨tyM_ok R1 rv ht, ρ1, M1, d, [], R1, rv, .nil, hp1⟩
  · exact hp1.elim
/-- a numbered list is written -/
theorem Post.put {ρ : Nu} {H : Hp} {M : Mem} {n : Nat} {a : Addr} {ds : List D} {vs : List V} {d : D} {v : V} {Q : VK} (R : Rep X.K ρ M H) (hr : ρ.num[n]? = some a) (hne : ∀ od w, H a ≠ some (.frz od w)) (t : Dens X.K ρ H ds vs) (rd : Den X.K ρ H d v)
    (hp : Post X.K X.mg E ρ H (.ok d (M.set n (.lst ds))) fun d _ ρ' H' => ∀ v, Den X.K ρ' H' d v → Q v H') : Q v (upd H a (.lst vs)) := by
  have x : Ext ρ H ρ (upd H a (.lst vs)) := .write (List.mem_of_getElem? hr) hne
  exact hp ρ _ x (R.write (o := .lst ds) hr hne ⟨vs, upd_same, t.ext R x⟩) v (rd.ext R x)
def mAppend : D → List D → Mem → Out D := fun o ds M => match o, ds with
  | .ref n, [d] => match M[n]? with
    | some (.lst xs) => if xs.length < 16777216 then .ok .non (M.set n (.lst (xs ++ [d]))) else .bad
    | _ => .bad
  | _, _ => .bad
theorem om_append : MtR X "list.append" (rM X.K X.mg E mAppend) := by
  intro pins s σ H x xs v us Q I rx rxs h
  obtain ⟨ρ, M, d, ds, R, r, rs, hp⟩ := h
  unfold mAppend at hp
  split at hp
  · cases r with
    | ref hr =>
      obtain ⟨w, rfl, rw'⟩ := dens1 rs
      split at hp
      · rename_i ys e
        obtain ⟨vs, h1, t⟩ := R.obj _ _ _ hr e
        split at hp
        · rename_i hl
          exact mt_append pins s σ H _ _ v us Q I rx rxs ⟨_, vs, w, rfl, rfl, h1, by rw [← t.length]; exact hl, hp.put R hr (nfz h1) (t.append (.cons rw' .nil)) .non⟩
        · exact hp.elim
      · exact hp.elim
  · exact hp.elim
def mExtend : D → List D → Mem → Out D := fun o ds M => match o, ds with
  | .ref n, [d] => match M[n]? with
    | some (.lst xs) => optO (lstO d M) fun ys => if xs.length + ys.length ≤ 16777216 then .ok .non (M.set n (.lst (xs ++ ys))) else .bad
    | _ => .bad
  | _, _ => .bad
theorem om_extend : MtR X "list.extend" (rM X.K X.mg E mExtend) := by
  intro pins s σ H x xs v us Q I rx rxs h
  obtain ⟨ρ, M, d, ds, R, r, rs, hp⟩ := h
  unfold mExtend at hp
  split at hp
  · cases r with
    | ref hr =>
      obtain ⟨w, rfl, rw'⟩ := dens1 rs
      split at hp
      · rename_i zs e
        obtain ⟨vs, h1, t⟩ := R.obj _ _ _ hr e
        obtain ⟨ys, e2, hp⟩ := optO_post hp
        obtain ⟨b, ws, rfl, h2, t2⟩ := lstO_some R rw' e2
        split at hp
        · rename_i hl
          exact mt_extend pins s σ H _ _ v us Q I rx rxs ⟨_, b, vs, ws, rfl, rfl, h1, h2, by rw [← t.length, ← t2.length]; exact line_of hl, hp.put R hr (nfz h1) (t.append t2) .non⟩
        · exact hp.elim
      · exact hp.elim
  · exact hp.elim
def mPop : D → List D → Mem → Out D := fun o ds M => match o, ds with
  | .ref n, [.int i] => match M[n]? with
    | some (.lst xs) => match (if -(2 ^ 63) ≤ i ∧ i < 2 ^ 63 then seqIndex? i xs.length else none) with
      | some k => match xs[k]? with
        | some y => .ok y (M.set n (.lst (xs.eraseIdx k)))
        | none => .bad
      | none => .bad
    | _ => .bad
  | .ref n, [] => match M[n]? with
    | some (.lst xs) => match xs[xs.length - 1]? with
      | some y => .ok y (M.set n (.lst xs.dropLast))
      | none => .bad
    | _ => .bad
  | _, _ => .bad
theorem Dens.dropLast {K : PySem.W.Frag} {ρ : Nu} {H : Hp} {ds : List D} {vs : List V} (t : Dens K ρ H ds vs) : Dens K ρ H ds.dropLast vs.dropLast := by
  rw [List.dropLast_eq_take, List.dropLast_eq_take, t.length]; exact t.take _
theorem om_pop : MtR X "list.pop" (rM X.K X.mg E mPop) := by
  intro pins s σ H x xs v us Q I rx rxs h
  obtain ⟨ρ, M, d, ds, R, r, rs, hp⟩ := h
  unfold mPop at hp
  split at hp
  · cases r with
    | ref hr =>
      obtain ⟨w, rfl, rw'⟩ := dens1 rs
      cases rw'
      split at hp
      · rename_i ys e
        obtain ⟨vs, h1, t⟩ := R.obj _ _ _ hr e
        split at hp
        · rename_i k ek
          split at ek
          · rename_i hb
            split at hp
            · rename_i y ey
              obtain ⟨w, ew, ry⟩ := t.get ey
              exact mt_popAt pins s σ H _ _ v us Q I rx rxs ⟨_, vs, _, k, w, rfl, rfl, h1, hb.1, hb.2, by rw [← t.length]; exact ek, ew, hp.put R hr (nfz h1) (t.eraseIdx k) ry⟩
            · exact hp.elim
          · cases ek
        · exact hp.elim
      · exact hp.elim
  · cases r with
    | ref hr =>
      cases rs
      split at hp
      · rename_i ys e
        obtain ⟨vs, h1, t⟩ := R.obj _ _ _ hr e
        split at hp
        · rename_i y ey
          obtain ⟨w, ew, ry⟩ := t.get ey
          exact mt_pop pins s σ H _ _ v us Q I rx rxs ⟨_, vs, w, rfl, rfl, h1, by rw [← t.length]; exact ew, hp.put R hr (nfz h1) t.dropLast ry⟩
        · exact hp.elim
      · exact hp.elim
  · exact hp.elim
/-- the first place of an equal one -/
def idxP (p : PyData) : List PyData → Nat → Option Nat
  | [], _ => none
  | q :: qs, i => if PyData.eqv q p = true then some i else idxP p qs (i + 1)
theorem idxP_some {p : PyData} : ∀ {qs : List PyData} {i j : Nat}, idxP p qs i = some j → ∃ m z, j = i + m ∧ qs[m]? = some z ∧ PyData.eqv z p = true ∧ ∀ (m' : Nat) (z' : PyData), m' < m → qs[m']? = some z' → PyData.eqv z' p = false
  | [], _, _, h => by cases h
  | q :: qs, i, j, h => by
    unfold idxP at h
    split at h
    · rename_i e
      cases h
      exact ⟨0, q, rfl, rfl, e, fun m' z' h => by omega⟩
    · rename_i e
      obtain ⟨m, z, e1, e2, e3, e4⟩ := idxP_some h
      refine ⟨m + 1, z, by omega, by simpa using e2, e3, fun m' z' hm hz => ?_⟩
      cases m' with
      | zero =>
        simp at hz
        subst hz
        simpa using e
      | succ m' => exact e4 m' z' (by omega) (by simpa using hz)
def mIndex : D → List D → Mem → Out D := fun o ds M => match ds with
  | [d] => match pdN M 60 o with
    | some (.list qs) => match pdN M 60 d with
      | some p => if (SeqAt.shaped (.list qs) && SeqAt.shaped p) = true then (match idxP p qs 0 with
        | some j => .ok (.int (j : Nat)) M
        | none => .bad) else .bad
      | none => .bad
    | _ => .bad
  | _ => .bad
theorem om_index (hu : X.A.units + 65 < cLine) : MtR X "list.index" (rM X.K X.mg E mIndex) := by
  intro pins s σ H x xs v us Q I rx rxs h
  obtain ⟨ρ, M, d, ds, R, r, rs, hp⟩ := h
  unfold mIndex at hp
  split at hp
  · obtain ⟨w, rfl, rw'⟩ := dens1 rs
    split at hp
    · rename_i qs e1
      split at hp
      · rename_i p e2
        split at hp
        · rename_i hs
          rw [Bool.and_eq_true] at hs
          split at hp
          · rename_i j ej
            obtain ⟨m, z, rfl, k1, k2, k3⟩ := idxP_some ej
            have hd := pdN_dp R _ _ _ _ r e1
            cases hd with
            | lst hq hall =>
              refine mt_indexD hu pins s σ H _ _ v us Q I rx rxs ⟨_, w, p, qs, m, z, rfl, rfl, .lst hq hall, pdN_dp R _ _ _ _ rw' e2, hs.1, hs.2, k1, k2, k3, ?_⟩
              have := hp.here R _ (.int _)
              rwa [Nat.zero_add] at this
          · exact hp.elim
        · exact hp.elim
      · exact hp.elim
    · exact hp.elim
  · exact hp.elim
end
end KP

/-! sorted, join -/
namespace KP
open PySem PySem.Spec PyProof.Rows L2

/-! ### a sort that is easily run -/
def insS {α : Type} (le : α → α → Bool) (x : α) : List α → List α
  | [] => [x]
  | y :: ys => if le x y = true then x :: y :: ys else y :: insS le x ys
def isort {α : Type} (le : α → α → Bool) : List α → List α
  | [] => []
  | x :: xs => insS le x (isort le xs)
section
variable {α : Type} {le : α → α → Bool}
theorem insS_perm (x : α) : ∀ l : List α, (insS le x l).Perm (x :: l)
  | [] => .refl _
  | y :: ys => by
    unfold insS
    split
    · exact .refl _
    · exact ((insS_perm x ys).cons y).trans (.swap x y ys)
theorem isort_perm : ∀ l : List α, (isort le l).Perm l
  | [] => .refl _
  | x :: xs => (insS_perm x _).trans ((isort_perm xs).cons x)
theorem insS_sorted (h : PySem.W.TotalLe le) (x : α) : ∀ {l : List α}, l.Pairwise (fun a b => le a b = true) → (insS le x l).Pairwise (fun a b => le a b = true)
  | [], _ => by simp [insS]
  | y :: ys, hp => by
    rw [List.pairwise_cons] at hp
    unfold insS
    split
    · rename_i hxy
      refine List.pairwise_cons.mpr ⟨fun z hz => ?_, List.pairwise_cons.mpr hp⟩
      rcases List.mem_cons.mp hz with e | hz
      · rw [e]; exact hxy
      · exact h.trans _ _ _ hxy (hp.1 z hz)
    · rename_i hxy
      have hyx : le y x = true := by
        rcases h.total x y with z | z
        · exact absurd z hxy
        · exact z
      refine List.pairwise_cons.mpr ⟨fun z hz => ?_, insS_sorted h x hp.2⟩
      rcases List.mem_cons.mp ((insS_perm x ys).mem_iff.mp hz) with e | hz
      · rw [e]; exact hyx
      · exact hp.1 z hz
theorem isort_sorted (h : PySem.W.TotalLe le) : ∀ l : List α, (isort le l).Pairwise (fun a b => le a b = true)
  | [] => .nil
  | x :: xs => insS_sorted h x (isort_sorted h xs)
theorem insS_filter (h : PySem.W.TotalLe le) (c x : α) : ∀ l : List α, (insS le x l).filter (PySem.W.sameRank le c) = (x :: l).filter (PySem.W.sameRank le c)
  | [] => rfl
  | y :: ys => by
    unfold insS
    split
    · rfl
    · rename_i hxy
      have ih := insS_filter h c x ys
      rw [List.filter_cons, ih]
      by_cases hx : PySem.W.sameRank le c x = true
      · by_cases hy : PySem.W.sameRank le c y = true
        · exfalso
          unfold PySem.W.sameRank at hx hy
          rw [Bool.and_eq_true] at hx hy
          exact hxy (h.trans _ _ _ hx.2 hy.1)
        · simp [List.filter_cons, hx, hy]
      · simp [List.filter_cons, hx]
theorem isort_filter (h : PySem.W.TotalLe le) (c : α) : ∀ l : List α, (isort le l).filter (PySem.W.sameRank le c) = l.filter (PySem.W.sameRank le c)
  | [] => rfl
  | x :: xs => by
    unfold isort
    rw [insS_filter h, List.filter_cons, isort_filter h c xs, List.filter_cons]
theorem isort_eq (h : PySem.W.TotalLe le) (l : List α) : l.mergeSort le = isort le l := (PySem.W.sort_unique h (isort_sorted h l) fun c => isort_filter h c l).symm
theorem dataLe_total {β : Type} (k : β → PyData) : PySem.W.TotalLe (PySem.W.dataLe false k) := PySem.W.sortLe_total _ _ _
end
theorem isort_map {α β : Type} {r : α → α → Bool} {s : β → β → Bool} (f : α → β) (h : ∀ a b, r a b = s (f a) (f b)) : ∀ l : List α, (isort r l).map f = isort s (l.map f)
  | [] => rfl
  | x :: xs => by
    have ih := isort_map f h xs
    have ins : ∀ l : List α, (insS r x l).map f = insS s (f x) (l.map f) := by
      intro l
      induction l with
      | nil => rfl
      | cons y ys ihy =>
        rw [insS, List.map_cons, insS, h x y]
        by_cases q : s (f x) (f y) = true
        · rw [if_pos q, if_pos q]; rfl
        · rw [if_neg q, if_neg q, List.map_cons, ihy]
    rw [isort, List.map_cons, isort, ins, ih]
/-- the items with what they are -/
def sortable (ps : List PyData) : Bool := (ps.all fun p => ps.all fun q => PySem.W.alike p q) && ((ps.all fun p => match p with
    | .tuple (_ :: _) => true
    | _ => false) || (ps.all fun p => match p with
    | .none => false
    | .tuple _ => false
    | _ => true)) && ps.all SeqAt.shaped
def sortD (ds : List D) (ps : List PyData) : List D := (isort (PySem.W.dataLe false Prod.snd) (ds.zip ps)).map Prod.fst
def sortedO (x : D) (M : Mem) : Option (List D) := match lsO x M with
  | some ds => match mapO (pdN M 60) ds with
    | some ps => if sortable ps = true ∧ ds.length ≤ 16777216 then some (sortD ds ps) else none
    | none => none
  | none => none
def cSorted : List D → Mem → Out D := fun ds M => match ds with
  | [x] => optO (sortedO x M) fun xs => .ok (.lst xs) M
  | _ => .bad
def cSortedN : List D → Mem → Out D := fun ds M => match ds with
  | [x] => optO (sortedO x M) fun xs => .ok (.ref M.length) (M ++ [.lst xs])
  | _ => .bad
theorem mapO_len {α β : Type} {f : α → Option β} : ∀ {xs : List α} {ys : List β}, mapO f xs = some ys → xs.length = ys.length
  | [], _, h => by cases h; rfl
  | x :: xs, ys, h => by
    unfold mapO at h
    split at h
    · split at h
      · rename_i zs e
        cases h
        rw [List.length_cons, List.length_cons, mapO_len e]
      · cases h
    · cases h
section
variable {X : Cx} {E : XK}
/-- triples: the item, its value, what it is -/
theorem dpAll_get {K : PySem.W.Frag} {H : Hp} : ∀ {vs : List V} {ps : List PyData}, DpAll K H vs ps → ∀ b ∈ vs.zip ps, Dp K H b.1 b.2
  | _, _, .nil, b, h => by simp at h
  | _, _, .cons r t, b, h => by
    rw [List.zip_cons_cons] at h
    rcases List.mem_cons.mp h with e | h
    · rw [e]; exact r
    · exact dpAll_get t b h
theorem each_zip {R : Value → V → Prop} : ∀ {its : List Value} {vs : List V} (bs : List (D × V × PyData)), bs.map (·.2.1) = vs → Vals vs its → (∀ v u, RelV v u → R u v) → PySem.W.EachIs (fun u b => R u b.2.1) its bs
  | _, _, [], e, r, _ => by subst e; cases r; exact .nil
  | _, _, b :: bs, e, r, h => by
    subst e
    cases r with
    | cons r t => exact .cons (h _ _ r) (each_zip bs rfl t h)
theorem each_imp {α β : Type} {R S : α → β → Prop} : ∀ {as : List α} {bs : List β}, PySem.W.EachIs R as bs → (∀ a b, b ∈ bs → R a b → S a b) → PySem.W.EachIs S as bs
  | _, _, .nil, _ => .nil
  | _, _, .cons r t, h => .cons (h _ _ List.mem_cons_self r) (each_imp t fun a b hb => h a b (List.mem_cons_of_mem _ hb))
theorem each_vals : ∀ {us : List Value} {bs : List (D × V × PyData)}, PySem.W.EachIs (fun u b => RelV b.2.1 u) us bs → Vals (bs.map (·.2.1)) us
  | _, _, .nil => .nil
  | _, _, .cons r t => .cons r (each_vals t)
theorem sorted_run (hu : X.A.units + 100 < cLine) {pins : List (Addr × Obj)} {s : Shared} {σ : L2.St} {H : Hp} {a : Addr} {vs : List V} {ds : List D} {ps : List PyData} {Q : VK} {ρ : Nu} {M : Mem} (I : Inv X pins σ H s) (R : Rep X.K ρ M H) (hs : SqL X.K H a vs) (t : Dens X.K ρ H ds vs)
    (hp : mapO (pdN M 60) ds = some ps) (hk : sortable ps = true) (hl : ds.length ≤ 16777216) (q : ∀ ws p, Dens X.K ρ H (sortD ds ps) ws → H p = none → Q (.ref p) (upd H p (.lst ws))) :
    wpAny (model X.prog X.w) X.A (call (.builtin "sorted") [.ref a]) (EP X pins σ Q) X.xe s := by
  obtain ⟨its, rv, hpl, hz⟩ := I.list hs
  have dp := mapO_dp (fun d v p r e => pdN_dp R _ _ _ _ r e) t hp
  have l1 : ds.length = vs.length := t.length
  have l2 : ds.length = ps.length := mapO_len hp
  unfold sortable at hk
  simp only [Bool.and_eq_true, Bool.or_eq_true, List.all_eq_true] at hk
  obtain ⟨⟨k1, k2⟩, k3⟩ := hk
  let bs : List (D × V × PyData) := ds.zip (vs.zip ps)
  have hb1 : bs.map (·.1) = ds := List.map_fst_zip (by rw [List.length_zip, ← l1, ← l2, Nat.min_self]; exact Nat.le_refl _)
  have hb2 : bs.map (·.2) = vs.zip ps := List.map_snd_zip (by rw [List.length_zip, ← l1, ← l2, Nat.min_self]; exact Nat.le_refl _)
  have hb3 : bs.map (·.2.1) = vs := by
    have : bs.map (·.2.1) = (bs.map (·.2)).map (·.1) := by rw [List.map_map]; rfl
    rw [this, hb2]
    exact List.map_fst_zip (by rw [← l1, ← l2]; exact Nat.le_refl _)
  have hb4 : bs.map (·.2.2) = ps := by
    have : bs.map (·.2.2) = (bs.map (·.2)).map (·.2) := by rw [List.map_map]; rfl
    rw [this, hb2]
    exact List.map_snd_zip (by rw [← l1, ← l2]; exact Nat.le_refl _)
  have e0 : PySem.W.EachIs (fun u b => RelV b.2.1 u) its bs := each_zip (R := fun u v => RelV v u) bs hb3 rv fun _ _ r => r
  have er : PySem.W.EachIs (fun u b => ∃ as, Reads s.heap u b.2.2 as) its bs := each_imp e0 fun u b hb r => by
    have : b.2 ∈ vs.zip ps := by rw [← hb2]; exact List.mem_map_of_mem hb
    exact Dp.reads I _ _ u (dpAll_get dp _ this) r
  have hal : PySem.W.AllAlike (bs.map (·.2.2)) := by
    rw [hb4]
    exact fun d hd d' hd' => k1 d hd d' hd'
  have hso : PySem.W.Sortable (bs.map (·.2.2)) := by
    rw [hb4]
    rcases k2 with k2 | k2
    · refine .inl fun d hd => ?_
      have := k2 d hd
      split at this
      · exact ⟨_, _, rfl⟩
      · cases this
    · refine .inr fun d hd => ?_
      have := k2 d hd
      split at this
      · cases this
      · cases this
      · rename_i h1 h2
        exact ⟨fun e => h1 (e ▸ rfl) , fun xs e => h2 xs e⟩
  have hbl : bs.length = ds.length := by rw [← hb1, List.length_map]
  refine PySem.W.sorted_data (enc := fun b : D × V × PyData => b.2.2) hpl.isList e0 er hal hso (by rw [hbl]; exact line_of hl) (fun b hb => ?_) fun out hlen hout => ?_
  · have : b.2.2 ∈ ps := by rw [← hb4]; exact List.mem_map_of_mem hb
    have hd := SeqAt.depth_of_shaped (k3 _ this)
    omega
  · rw [isort_eq (dataLe_total _)] at hout
    obtain ⟨ep, he'⟩ := PyProof.Rows.sortedAll_at s.heap its out.toArray
    have hv := each_vals hout
    have hlen2 : ((isort (PySem.W.dataLe false fun b : D × V × PyData => b.2.2) bs).map (·.2.1)).length ≤ sizeLine := by
      rw [List.length_map, (isort_perm bs).length_eq, hbl]; exact line_of hl
    refine ⟨.ref _, upd H (s.heap.objs.size + 1) (.lst ((isort (PySem.W.dataLe false fun b : D × V × PyData => b.2.2) bs).map (·.2.1))), I.laid (t' := s.toks) (fun _ _ => PyProof.Rows.sortedAll_old) (Nat.le_succ _) ⟨hlen2, out, ep, hv, he'⟩, rfl, q _ _ ?_ (I.hok.fresh (Nat.le_succ _))⟩
    have e1 : sortD ds ps = (isort (PySem.W.dataLe false fun b : D × V × PyData => b.2.2) bs).map (·.1) := by
      have hz2 : bs.map (fun b => (b.1, b.2.2)) = ds.zip ps := by
        have : ∀ (xs : List D) (ys : List V) (zs : List PyData), xs.length = ys.length → (xs.zip (ys.zip zs)).map (fun b => (b.1, b.2.2)) = xs.zip zs := by
          intro xs
          induction xs with
          | nil => intro ys zs _; rfl
          | cons x xs ih =>
            intro ys zs hl
            cases ys with
            | nil => simp at hl
            | cons y ys =>
              cases zs with
              | nil => rfl
              | cons z zs =>
                simp only [List.zip_cons_cons, List.map_cons]
                rw [ih ys zs (by simpa using hl)]
        exact this ds vs ps l1
      unfold sortD
      rw [← hz2, ← isort_map (r := PySem.W.dataLe false fun b : D × V × PyData => b.2.2) (s := PySem.W.dataLe false Prod.snd) (fun b : D × V × PyData => (b.1, b.2.2)) (fun _ _ => rfl), List.map_map]
      rfl
    rw [e1]
    refine .of_get (by rw [List.length_map, List.length_map]) fun i d v ed ev => ?_
    rw [List.getElem?_map] at ed ev
    cases qb : (isort (PySem.W.dataLe false fun b : D × V × PyData => b.2.2) bs)[i]? with
    | none => rw [qb] at ed; cases ed
    | some b =>
      rw [qb] at ed ev
      cases ed; cases ev
      have hb : b ∈ bs := (isort_perm bs).mem_iff.mp (List.mem_of_getElem? qb)
      obtain ⟨j, hj, ej⟩ := List.getElem_of_mem hb
      have g1 : ds[j]? = some b.1 := by rw [← hb1, List.getElem?_map, List.getElem?_eq_getElem hj, ej]; rfl
      have g2 : vs[j]? = some b.2.1 := by rw [← hb3, List.getElem?_map, List.getElem?_eq_getElem hj, ej]; rfl
      exact t.two g1 g2
theorem sortedO_some {x : D} {v : V} {xs : List D} {ρ : Nu} {M : Mem} {H : Hp} (R : Rep X.K ρ M H) (r : Den X.K ρ H x v) (h : sortedO x M = some xs) : ∃ a vs ds ps, v = .ref a ∧ SqL X.K H a vs ∧ Dens X.K ρ H ds vs ∧ mapO (pdN M 60) ds = some ps ∧ sortable ps = true ∧ ds.length ≤ 16777216 ∧ xs = sortD ds ps := by
  unfold sortedO at h
  split at h
  · rename_i ds e
    obtain ⟨a, vs, rfl, hs, t⟩ := lsO_some R r e
    split at h
    · rename_i ps e2
      split at h
      · rename_i hk
        cases h
        exact ⟨a, vs, ds, ps, rfl, hs, t, e2, hk.1, hk.2, rfl⟩
      · cases h
    · cases h
  · cases h
theorem oc_sorted (hu : X.A.units + 100 < cLine) : CallR X (.builtin "sorted") (rC X.K X.mg E cSorted) := by
  intro pins s σ H xs us Q I r h
  obtain ⟨ρ, M, ds, R, rd, hp⟩ := h
  unfold cSorted at hp
  split at hp
  · obtain ⟨v, rfl, r1⟩ := dens1 rd
    obtain ⟨ys, e, hp⟩ := optO_post hp
    obtain ⟨a, vs, zs, ps, rfl, hs, t, e2, hk, hl, rfl⟩ := sortedO_some R r1 e
    rw [Vals.ref1 r]
    exact sorted_run hu I R hs t e2 hk hl fun ws p tw hn => hp.lstTmp R tw p hn
  · exact hp.elim
theorem oc_sortedN (hu : X.A.units + 100 < cLine) : CallR X (.builtin "sorted") (rC X.K X.mg E cSortedN) := by
  intro pins s σ H xs us Q I r h
  obtain ⟨ρ, M, ds, R, rd, hp⟩ := h
  unfold cSortedN at hp
  split at hp
  · obtain ⟨v, rfl, r1⟩ := dens1 rd
    obtain ⟨ys, e, hp⟩ := optO_post hp
    obtain ⟨a, vs, zs, ps, rfl, hs, t, e2, hk, hl, rfl⟩ := sortedO_some R r1 e
    rw [Vals.ref1 r]
    exact sorted_run hu I R hs t e2 hk hl fun ws p tw hn => hp.lstNew R tw p hn
  · exact hp.elim
end
end KP

/-! what a printer of derivations writes -/
namespace KP
open PySem PySem.Spec PyProof.Rows L2

theorem bt_len : bootBuiltins "len" = some (.builtin "len") := by decide +kernel
theorem bt_isinstance : bootBuiltins "isinstance" = some (.builtin "isinstance") := by decide +kernel
theorem bt_abs : bootBuiltins "abs" = some (.builtin "abs") := by decide +kernel
theorem bt_max : bootBuiltins "max" = some (.builtin "max") := by decide +kernel
theorem bt_min : bootBuiltins "min" = some (.builtin "min") := by decide +kernel
theorem bt_sum : bootBuiltins "sum" = some (.builtin "sum") := by decide +kernel
theorem bt_all : bootBuiltins "all" = some (.builtin "all") := by decide +kernel
theorem bt_any : bootBuiltins "any" = some (.builtin "any") := by decide +kernel
theorem bt_sorted : bootBuiltins "sorted" = some (.builtin "sorted") := by decide +kernel
theorem bt_divmod : bootBuiltins "divmod" = some (.builtin "divmod") := by decide +kernel
theorem bt_int : bootBuiltins "int" = some (.type "int") := by decide +kernel
theorem bt_bool : bootBuiltins "bool" = some (.type "bool") := by decide +kernel
theorem bt_str : bootBuiltins "str" = some (.type "str") := by decide +kernel
theorem bt_tuple : bootBuiltins "tuple" = some (.type "tuple") := by decide +kernel
theorem bt_list : bootBuiltins "list" = some (.type "list") := by decide +kernel
theorem bt_dict : bootBuiltins "dict" = some (.type "dict") := by decide +kernel
theorem bt_set : bootBuiltins "set" = some (.type "set") := by decide +kernel
theorem bt_repr : bootBuiltins "repr" = some (.builtin "repr") := by decide +kernel

section
variable {X : Cx} {E : XK} {N : List Str} {sc : Scope} {ks : List (Option NameKind)} {own : List Nat} {k : Nat}
theorem Ctx.hu100 (C : Ctx X E N sc ks own k) : X.A.units + 100 < cLine := by have := C.room.un; omega
/-- a module's constant -/
theorem cint (C : Ctx X E N sc ks own k) {x : Str} {i : Int} {pos : Pos} (h : ∃ t, X.mg x = some (.int i t)) (hg : sc.names.lookup x = some .globalImplicit := by decide +kernel) (hx : (x == ("__debug__" : Str)) = false := by decide +kernel) : JE X E (.Name x pos) (fC (.int i)) := by
  obtain ⟨t, h⟩ := h
  exact je_glob (v := .int i) (C.gl hg) h ⟨t, rfl⟩ (fun _ _ => .int i) hx
theorem cstr (C : Ctx X E N sc ks own k) {x : Str} {z : List Nat} {pos : Pos} (h : ∃ t, X.mg x = some (.str ⟨z.toArray⟩ t)) (hg : sc.names.lookup x = some .globalImplicit := by decide +kernel) (hx : (x == ("__debug__" : Str)) = false := by decide +kernel) : JE X E (.Name x pos) (fC (.str z)) := by
  obtain ⟨t, h⟩ := h
  exact je_glob (v := .str ⟨z.toArray⟩) (C.gl hg) h ⟨t, rfl⟩ (fun _ _ => .str z) hx
/-- a module's tuple of texts -/
def StrTup (K : PySem.W.Frag) (mg : Str → Option Value) (x : Str) (zs : List (List Nat)) : Prop := ∃ a, mg x = some (.ref a) ∧ (∀ ρ H, Den K ρ H (.tup (zs.map .str)) (.ref a)) ∧ ∃ o, K.lookup a = some o ∧ o.cls = .type "tuple" ∧ o.dict = none
theorem ctup (C : Ctx X E N sc ks own k) {x : Str} {zs : List (List Nat)} {pos : Pos} (h : StrTup X.K X.mg x zs) (hg : sc.names.lookup x = some .globalImplicit := by decide +kernel) (hx : (x == ("__debug__" : Str)) = false := by decide +kernel) : JE X E (.Name x pos) (fC (.tup (zs.map .str))) := by
  obtain ⟨a, h, hd, _⟩ := h
  exact je_glob (v := .ref a) (C.gl hg) h rfl hd hx
/-- a text that is written -/
theorem cs {x : Str} {z : List Nat} {j pos} (h : decide (x = ⟨z.toArray⟩) = true := by decide +kernel) : JE X E (.Constant (.str x) j pos) (fC (.str z)) := je_str (of_decide_eq_true h)
/-- a call of a built-in -/
theorem cbi (C : Ctx X E N sc ks own k) {x : Str} {id : String} {e : Expr} {es : List Expr} {g : List D → Mem → Out D} {fa : SFs} {p pos : Pos} (hc : CallR X (.builtin id) (rC X.K X.mg E g)) (hm : X.mg x = none) (hv : bootBuiltins x = some (.builtin id)) (ha : JA X E (e :: es) fa) (hg : sc.names.lookup x = some .globalImplicit := by decide +kernel)
    (hn : x ≠ "__name__" := by decide +kernel) (hdb : (x == ("__debug__" : Str)) = false := by decide +kernel) (he : starEach (e :: es) X.env = (false, eval e X.env) :: starEach es X.env := by rfl) (hpl : (backTo pos (starEach es X.env)).any (·.1) = false := by rfl) :
    JE X E (.Call (.Name x p) (e :: es) [] pos) (fCall g fa) := je_callB hc (C.gl hg) hm hv ha hn hdb he hpl
theorem cty (C : Ctx X E N sc ks own k) {x : Str} {T : String} {e : Expr} {es : List Expr} {g : List D → Mem → Out D} {fa : SFs} {p pos : Pos} (hc : CallR X (.type T) (rC X.K X.mg E g)) (hm : X.mg x = none) (hv : bootBuiltins x = some (.type T)) (ha : JA X E (e :: es) fa) (hg : sc.names.lookup x = some .globalImplicit := by decide +kernel)
    (hn : x ≠ "__name__" := by decide +kernel) (hdb : (x == ("__debug__" : Str)) = false := by decide +kernel) (he : starEach (e :: es) X.env = (false, eval e X.env) :: starEach es X.env := by rfl) (hpl : (backTo pos (starEach es X.env)).any (·.1) = false := by rfl) :
    JE X E (.Call (.Name x p) (e :: es) [] pos) (fCall g fa) := je_callTy hc (C.gl hg) hm hv ha hn hdb he hpl
/-- a built-in type's name -/
theorem ctn (C : Ctx X E N sc ks own k) {x : Str} {T : String} {pos : Pos} (hm : X.mg x = none) (hv : bootBuiltins x = some (.type T)) (hg : sc.names.lookup x = some .globalImplicit := by decide +kernel) (hn : x ≠ "__name__" := by decide +kernel) (hd : (x == ("__debug__" : Str)) = false := by decide +kernel) : JE X E (.Name x pos) (fC (.ty T)) :=
  je_ty (C.gl hg) hm hv hn hd
theorem crange1 (C : Ctx X E N sc ks own k) {tg a : Expr} {fa : SFs} {p pos : Pos} (hm : X.mg "range" = none) (ha : JA X E [a] fa) (hg : sc.names.lookup (Str.ofString "range") = some .globalImplicit := by decide +kernel) (hs : starEach [a] X.env = [(false, eval a X.env)] := by rfl) : JI X E tg (.Call (.Name "range" p) [a] [] pos) (iRange1 fa) := ji_range1 (C.gl hg) hm ha hs
theorem crange2 (C : Ctx X E N sc ks own k) {tg a b : Expr} {fa : SFs} {p pos : Pos} (hm : X.mg "range" = none) (ha : JA X E [a, b] fa) (hg : sc.names.lookup (Str.ofString "range") = some .globalImplicit := by decide +kernel) (hs : starEach [a, b] X.env = [(false, eval a X.env), (false, eval b X.env)] := by rfl) (hs2 : starEach [b] X.env = [(false, eval b X.env)] := by rfl) :
    JI X E tg (.Call (.Name "range" p) [a, b] [] pos) (iRange2 fa) := ji_range2 (C.gl hg) hm ha hs hs2
theorem cfor (C : Ctx X E N sc ks own k) {vs : List Nat} {tg iter : Expr} {body : List Stmt} {fi : SI} {g : SG} {b : SS} {pos : Pos} (hi : JI X E tg iter fi) (hg : JG X E vs tg g) (hb : JSs X E body b) (hs : ∀ x, foldedSetIterable iter X.env x = pure x := by intro _; rfl) : JS X E (.For tg iter body [] pos) (sFor fi g b) :=
  js_for C.pown C.calm hi hg hb hs
theorem cwhile (C : Ctx X E N sc ks own k) {c : Expr} {body : List Stmt} {fc : SB} {fb : SS} {pos : Pos} (n : Nat) (hc : JT X E c fc) (hb : JSs X E body fb) : JS X E (.While c body [] pos) (sWhileN fc fb n) := js_while n C.pown hc hb
theorem gtup (C : Ctx X E N sc ks own k) {vs : List Nat} {es : List Expr} {kk : Nat} {gs : List D → SD → Mem → Out SD} {n : Nat} {pos : Pos} (h : JGs X E vs es gs) (hn : (assignEach es X.env).length = n := by rfl) (hst : (assignEach es X.env).findIdx? (·.1) = none := by rfl) : JG X E vs (.Tuple es kk pos) (gTup n gs) :=
  jg_tup C.calm h hn hst
/-- what a comprehension's block shows -/
def Blk (X : Cx) (N : List Str) (sc scope : Scope) (ks' : List (Option NameKind)) (ow : List (Str × Nat)) (k : Nat) (vsg : List Nat) (tg elt : Expr) (ifs : List Expr) (g : SG) (t : SB) (e : SF) : Prop :=
  ∀ (s : Shared) (H : Hp) (Cc : Addr) (cl : List (Str × Addr)) (fp : List Addr), Ctx (X.blk s H scope (compEnvC scope cl Cc X.env) fp) EF N (relS scope sc) ks' (ow.map (·.2)) k →
    JG (X.blk s H scope (compEnvC scope cl Cc X.env) fp) EF vsg tg g ∧ PTs (X.blk s H scope (compEnvC scope cl Cc X.env) fp) ifs (tT X.K X.mg EF t) ∧ JE (X.blk s H scope (compEnvC scope cl Cc X.env) fp) EF elt e
def blkAll (N : List Str) (sc scope : Scope) (ks' : List (Option NameKind)) (ow : List (Str × Nat)) : Bool :=
  blkC N sc scope ow && decide (N.map (fun x => (relS scope sc).names.lookup x) = ks') && (ow.all fun p => decide (N[p.2]? = some p.1) && (decide (scope.names.lookup p.1 = some .local) || decide (scope.names.lookup p.1 = some .cell))) && (match scope.kind with | .function => true | _ => false)
theorem blkAll_ok {scope : Scope} {ks' : List (Option NameKind)} {ow : List (Str × Nat)} (h : blkAll N sc scope ks' ow = true) : BlkOk N sc scope ow ∧ N.map (fun x => (relS scope sc).names.lookup x) = ks' ∧ (ow.all fun p => decide (N[p.2]? = some p.1) && (decide (scope.names.lookup p.1 = some .local) || decide (scope.names.lookup p.1 = some .cell))) = true ∧ scope.kind = .function := by
  unfold blkAll at h
  rw [Bool.and_eq_true, Bool.and_eq_true, Bool.and_eq_true] at h
  obtain ⟨⟨⟨h1, h2⟩, h3⟩, h4⟩ := h
  refine ⟨blkOk_by h1, of_decide_eq_true h2, h3, ?_⟩
  split at h4
  · assumption
  · cases h4
theorem clc (C : Ctx X E N sc ks own k) (ow : List (Str × Nat)) (ks' : List (Option NameKind)) {vsg : List Nat} {elt tg iter : Expr} {ifs : List Expr} {scope : Scope} {pos : Pos} {fi : SI} {g : SG} {t : SB} {e : SF} (hi : JI X E tg iter fi) (hB : Blk X N sc scope ks' ow k vsg tg elt ifs g t e)
    (ok : blkAll N sc scope ks' ow = true := by decide +kernel) (hv : ∀ i ∈ vsg, i ∈ ow.map (·.2) := by decide) (hs : ∀ x, foldedSetIterable iter X.env x = pure x := by intro _; rfl) : JE X E (.ListComp elt [⟨tg, iter, ifs, 0⟩] scope pos) (fLc (ow.map (·.2)) fi g t e) := by
  obtain ⟨o1, o2, o3, o4⟩ := blkAll_ok ok
  have hb := fun s H Cc cl fp => hB s H Cc cl fp (C.blk o4 o2 o3 s H Cc cl fp)
  exact je_lc C.calm (by rw [C.hN]; exact C.nd) hi (by rw [C.hN, C.hsc]; exact o1) hv (fun s H Cc cl fp => (hb s H Cc cl fp).1) (fun s H Cc cl fp => (hb s H Cc cl fp).2.1) (fun s H Cc cl fp => (hb s H Cc cl fp).2.2) hs
theorem clcN (C : Ctx X E N sc ks own k) (ow : List (Str × Nat)) (ks' : List (Option NameKind)) {vsg : List Nat} {elt tg iter : Expr} {ifs : List Expr} {scope : Scope} {pos : Pos} {fi : SI} {g : SG} {t : SB} {e : SF} (hi : JI X E tg iter fi) (hB : Blk X N sc scope ks' ow k vsg tg elt ifs g t e)
    (ok : blkAll N sc scope ks' ow = true := by decide +kernel) (hv : ∀ i ∈ vsg, i ∈ ow.map (·.2) := by decide) (hs : ∀ x, foldedSetIterable iter X.env x = pure x := by intro _; rfl) : JE X E (.ListComp elt [⟨tg, iter, ifs, 0⟩] scope pos) (fLcN (ow.map (·.2)) fi g t e) := by
  obtain ⟨o1, o2, o3, o4⟩ := blkAll_ok ok
  have hb := fun s H Cc cl fp => hB s H Cc cl fp (C.blk o4 o2 o3 s H Cc cl fp)
  exact je_lcN C.calm (by rw [C.hN]; exact C.nd) hi (by rw [C.hN, C.hsc]; exact o1) hv (fun s H Cc cl fp => (hb s H Cc cl fp).1) (fun s H Cc cl fp => (hb s H Cc cl fp).2.1) (fun s H Cc cl fp => (hb s H Cc cl fp).2.2) hs
theorem csetLc (C : Ctx X E N sc ks own k) (i : Nat) (ow : List (Str × Nat)) (ks' : List (Option NameKind)) {y : Str} {py : Pos} {vsg : List Nat} {elt tg iter : Expr} {ifs : List Expr} {scope : Scope} {pos spos : Pos} {fi : SI} {g : SG} {t : SB} {e : SF} (hi : JI X E tg iter fi) (hB : Blk X N sc scope ks' ow k vsg tg elt ifs g t e)
    (hN : N[i]? = some y := by rfl) (hk : ks[i]? = some (some .local) := by rfl) (ok : blkAll N sc scope ks' ow = true := by decide +kernel) (hv : ∀ i ∈ vsg, i ∈ ow.map (·.2) := by decide) (hl : (py.line == pos.line) = true := by rfl)
    (ha : (scope.names.any fun (n, k) => n == y && (k == .local || k == .cell)) = false := by decide +kernel) (hs : ∀ x, foldedSetIterable iter X.env x = pure x := by intro _; rfl) :
    JS X E (.Assign [.Name y py] (.ListComp elt [⟨tg, iter, ifs, 0⟩] scope pos) spos) (sAsg (fLc (ow.map (·.2)) fi g t e) (gSet i)) := by
  obtain ⟨o1, o2, o3, o4⟩ := blkAll_ok ok
  have hb := fun s H Cc cl fp => hB s H Cc cl fp (C.blk o4 o2 o3 s H Cc cl fp)
  have hy : X.env.scope.names.lookup y = some .local := by rw [C.hsc]; have := C.kind hN; rw [hk] at this; exact (Option.some.inj this).symm
  exact js_setLc C.calm (by rw [C.hN]; exact C.nd) (by rw [C.hN]; exact hN) hy (sw_true (by rw [C.hsc]; exact C.kind0) hy hl ha) hi (by rw [C.hN, C.hsc]; exact o1) hv (fun s H Cc cl fp => (hb s H Cc cl fp).1) (fun s H Cc cl fp => (hb s H Cc cl fp).2.1) (fun s H Cc cl fp => (hb s H Cc cl fp).2.2) hs
theorem csetLcN (C : Ctx X E N sc ks own k) (i : Nat) (ow : List (Str × Nat)) (ks' : List (Option NameKind)) {y : Str} {py : Pos} {vsg : List Nat} {elt tg iter : Expr} {ifs : List Expr} {scope : Scope} {pos spos : Pos} {fi : SI} {g : SG} {t : SB} {e : SF} (hi : JI X E tg iter fi) (hB : Blk X N sc scope ks' ow k vsg tg elt ifs g t e)
    (hN : N[i]? = some y := by rfl) (hk : ks[i]? = some (some .local) := by rfl) (ok : blkAll N sc scope ks' ow = true := by decide +kernel) (hv : ∀ i ∈ vsg, i ∈ ow.map (·.2) := by decide) (hl : (py.line == pos.line) = true := by rfl)
    (ha : (scope.names.any fun (n, k) => n == y && (k == .local || k == .cell)) = false := by decide +kernel) (hs : ∀ x, foldedSetIterable iter X.env x = pure x := by intro _; rfl) :
    JS X E (.Assign [.Name y py] (.ListComp elt [⟨tg, iter, ifs, 0⟩] scope pos) spos) (sAsg (fLcN (ow.map (·.2)) fi g t e) (gSet i)) := by
  obtain ⟨o1, o2, o3, o4⟩ := blkAll_ok ok
  have hb := fun s H Cc cl fp => hB s H Cc cl fp (C.blk o4 o2 o3 s H Cc cl fp)
  have hy : X.env.scope.names.lookup y = some .local := by rw [C.hsc]; have := C.kind hN; rw [hk] at this; exact (Option.some.inj this).symm
  exact js_setLcN C.calm (by rw [C.hN]; exact C.nd) (by rw [C.hN]; exact hN) hy (sw_true (by rw [C.hsc]; exact C.kind0) hy hl ha) hi (by rw [C.hN, C.hsc]; exact o1) hv (fun s H Cc cl fp => (hb s H Cc cl fp).1) (fun s H Cc cl fp => (hb s H Cc cl fp).2.1) (fun s H Cc cl fp => (hb s H Cc cl fp).2.2) hs
end
/-- what the head tells of a def -/
def Def (K : PySem.W.Frag) (mg : Str → Option Value) (x : Str) (st : Stmt) : Prop := ∃ f fd, Fun K x x st f fd ∧ mg x = some (.ref f)
section
variable {P : Program} {w : World} {K : PySem.W.Frag} {mg : Str → Option Value} {base : Heap}
theorem has_def {x : Str} {st : Stmt} {N ps : List Str} {k : Nat} {b : SS} {ks : List (Option NameKind)} {own : List Nat} (F : Def K mg x st) (S : FnScope N ps (defScope st))
    (hk : N.map (fun x => (defScope st).names.lookup x) = ks) (ho : (own.all fun i => match ks[i]? with | some (some .local) => true | some (some .cell) => true | _ => false) = true)
    (hbd : ∀ (kV doc pm : Value) (an : Option Addr) (cdv ct : Value) (us : List Value), us.length = ps.length → bindArgs (PySem.W.fnOf x x (defArgs st) (defBody st) (defScope st) .none kV doc pm an cdv ct) ⟨us, []⟩ = pure (ps.zip us))
    (hb : ∀ (X : Cx) (E : XK), X.prog = P → X.w = w → X.K = K → X.mg = mg → X.base = base → Ctx X E N (defScope st) ks own k → JSs X E (defBody st) b) : Has P w K mg base (k + 1) x st ps (fDef N.length b) := by
  obtain ⟨f, fd, F, hm⟩ := F
  refine ⟨f, fd, def_ok F S hk ho hb, hm, F.kp, F.binds hbd, ?_, ?_⟩
  · obtain ⟨oc, od, kV, doc, pm, an, cdv, ct, osl, rfl, lk, hcd⟩ := F.ex
    exact ⟨_, kV, doc, pm, an, cdv, ct, rfl⟩
  · obtain ⟨oc, od, kV, doc, pm, an, cdv, ct, osl, rfl, lk, hcd⟩ := F.ex
    exact ⟨oc, od, osl, lk⟩
/-- of a def that another name is given to -/
def DefA (K : PySem.W.Frag) (mg : Str → Option Value) (y x : Str) (st : Stmt) : Prop := ∃ f fd, Fun K x x st f fd ∧ mg y = some (.ref f)
theorem has_defA {y x : Str} {st : Stmt} {N ps : List Str} {k : Nat} {b : SS} {ks : List (Option NameKind)} {own : List Nat} (F : DefA K mg y x st) (S : FnScope N ps (defScope st))
    (hk : N.map (fun x => (defScope st).names.lookup x) = ks) (ho : (own.all fun i => match ks[i]? with | some (some .local) => true | some (some .cell) => true | _ => false) = true)
    (hbd : ∀ (kV doc pm : Value) (an : Option Addr) (cdv ct : Value) (us : List Value), us.length = ps.length → bindArgs (PySem.W.fnOf x x (defArgs st) (defBody st) (defScope st) .none kV doc pm an cdv ct) ⟨us, []⟩ = pure (ps.zip us))
    (hb : ∀ (X : Cx) (E : XK), X.prog = P → X.w = w → X.K = K → X.mg = mg → X.base = base → Ctx X E N (defScope st) ks own k → JSs X E (defBody st) b) : Has P w K mg base (k + 1) y st ps (fDef N.length b) := by
  obtain ⟨f, fd, F, hm⟩ := F
  refine ⟨f, fd, def_ok F S hk ho hb, hm, F.kp, F.binds hbd, ?_, ?_⟩
  · obtain ⟨oc, od, kV, doc, pm, an, cdv, ct, osl, rfl, lk, hcd⟩ := F.ex
    exact ⟨_, kV, doc, pm, an, cdv, ct, rfl⟩
  · obtain ⟨oc, od, kV, doc, pm, an, cdv, ct, osl, rfl, lk, hcd⟩ := F.ex
    exact ⟨oc, od, osl, lk⟩
/-- nothing is promised yet -/
theorem has_bad {y x : Str} {st : Stmt} {N ps : List Str} {k : Nat} (F : DefA K mg y x st) (S : FnScope N ps (defScope st))
    (hbd : ∀ (kV doc pm : Value) (an : Option Addr) (cdv ct : Value) (us : List Value), us.length = ps.length → bindArgs (PySem.W.fnOf x x (defArgs st) (defBody st) (defScope st) .none kV doc pm an cdv ct) ⟨us, []⟩ = pure (ps.zip us)) :
    Has P w K mg base k y st ps (fun _ _ => .bad) := by
  obtain ⟨f, fd, F, hm⟩ := F
  refine ⟨f, fd, ⟨fun vs H Q E ⟨ρ, M, ds, _, _, h, _⟩ => h, fun A out t H ar us vs Q E g hr he hb hv ⟨ρ, M, ds, _, _, _, h⟩ => (h : False).elim⟩, hm, F.kp, F.binds hbd, ?_, ?_⟩
  · obtain ⟨oc, od, kV, doc, pm, an, cdv, ct, osl, rfl, lk, hcd⟩ := F.ex
    exact ⟨_, kV, doc, pm, an, cdv, ct, rfl⟩
  · obtain ⟨oc, od, kV, doc, pm, an, cdv, ct, osl, rfl, lk, hcd⟩ := F.ex
    exact ⟨oc, od, osl, lk⟩
end
end KP

/-! augmented operators, calls by keywords, list(range(..)) -/
namespace KP
open PySem PySem.Spec PyProof.Rows L2
open AutoSeq1 (wpAny_loadPart')
section
variable {X : Cx} {E : XK}
def iAdd : D → D → Mem → Out D := fun x y M => match x, y with
  | .int i, .int j => .ok (.int (i + j)) M
  | .str a, .str b => if a.length + b.length ≤ 16777216 then .ok (.str (a ++ b)) M else .bad
  | _, _ => .bad
theorem oi_addD : OpR X (inplaceOp .Add) (rD X.K X.mg E iAdd) := oi_add
theorem iop_mulW : OpR X (inplaceOp .Mult) (rI CMulW fun i j => .int (i * j)) := opI fun _ _ _ _ _ _ _ hc q => imul_int q hc.ok
def dMulI : D → D → Mem → Out D := fun x y M => match x, y with
  | .int i, .int j => if mulOk i j = true then .ok (.int (i * j)) M else .bad
  | _, _ => .bad
theorem oi_mul : OpR X (inplaceOp .Mult) (rD X.K X.mg E dMulI) := by
  intro pins s σ H x y v u Q I rx ry h
  obtain ⟨ρ, M, dx, dy, R, r1, r2, hp⟩ := h
  unfold dMulI at hp
  split at hp
  · rename_i i j
    cases r1; cases r2
    split at hp
    · rename_i hm
      unfold mulOk at hm
      simp only [Bool.or_eq_true, Bool.and_eq_true, decide_eq_true_eq] at hm
      rcases hm with hm | hm
      · exact iop_mul pins s σ H _ _ v u Q I rx ry ⟨_, _, rfl, rfl, hm, hp.here R _ (.int _)⟩
      · exact iop_mulW pins s σ H _ _ v u Q I rx ry ⟨_, _, rfl, rfl, hm, hp.here R _ (.int _)⟩
    · exact hp.elim
  · exact hp.elim
/-! a tuple times 1 -/
theorem tuple_mul1 (l : Addr) (items : Array Value) (n : Nat) (dd : Option Addr) (sl : Array (Option Value)) (u : Tok) :
    Meets (Builtin.«tuple.__mul__» ⟨[.ref l, .int 1 u], []⟩) (fun _ R s => s.heap.get? l = some { cls := .type "tuple", dict := dd, data := .seq items n, slots := sl } ∧
      R (.ok (.ret (Value.ref l))) s) :=
  .of_wp fun prog w A R s h => by
    obtain ⟨hp, g, d, tk, os⟩ := s
    obtain ⟨hl, h⟩ := h
    have f1 := AutoSeq1.idx_int
    have c1 : (items.isEmpty || (1 : Int) == 1) = true := by rw [show ((1 : Int) == 1) = true from rfl, Bool.or_true]
    wp_walk using wpAny_loadPart' hl
    exact ⟨_, rfl, h⟩
theorem op_repT1 : OpR X (binaryOp .Mult) (fun x y H Q => ∃ l xs, x = .ref l ∧ y = .int 1 ∧ SqT X.K H l xs ∧ Q (.ref l) H) := by
  intro pins s σ H x y v u Q I rx ry h
  obtain ⟨l, xs, rfl, rfl, hT, q⟩ := h
  cases rx
  obtain ⟨t, rfl⟩ := ry
  obtain ⟨its, r, ⟨⟨cls, dd, data, sl⟩, ho, hc, n, hd⟩, hs⟩ := I.tuple hT
  simp only at hc hd
  subst hc hd
  refine wpAny_binaryOp_repeat_ref (T := "tuple") (U := "int") (by decide) ⟨_, ho, rfl⟩ (fun s' => typeIs_int s' 1 t) noFill_tuple_mul F.fills_int_mul F.slot_int_rmul repeat_tuple F.slot_int_index.lookup
    (call_meets F.slot_int_rmul (typeIs_int s 1 t) F.entry_int_rmul (F.args_int_rmul_2 _ _) (int_rmul_tuple 1 t l its.toArray n dd sl)
      ⟨ho, rfl, ⟨_, ho, rfl⟩, call_meets F.slot_tuple_mul ⟨_, ho, rfl⟩ F.entry_tuple_mul (F.args_tuple_mul_2 _ _) (tuple_mul1 l its.toArray n dd sl t) ⟨ho, ?_⟩⟩)
  exact ⟨.ref l, H, I, rfl, q⟩
/-! the empty tuple times a number -/
theorem tuple_mul0 (l : Addr) (n : Nat) (dd : Option Addr) (sl : Array (Option Value)) (x : Int) (u : Tok) (c0 : (decide (x < -(2 ^ 63)) || decide (x ≥ 2 ^ 63)) = false) :
    Meets (Builtin.«tuple.__mul__» ⟨[.ref l, .int x u], []⟩) (fun _ R s => s.heap.get? l = some { cls := .type "tuple", dict := dd, data := .seq #[] n, slots := sl } ∧
      R (.ok (.ret (Value.ref l))) s) :=
  .of_wp fun prog w A R s h => by
    obtain ⟨hp, g, d, tk, os⟩ := s
    obtain ⟨hl, h⟩ := h
    have f1 := AutoSeq1.idx_int
    have c1 : ((#[] : Array Value).isEmpty || x == 1) = true := rfl
    wp_walk using wpAny_loadPart' hl
    repeat (first
      | (refine wpAny_ite_false (decide_eq_false (by rw [c0]; exact Bool.false_ne_true)) ?_; wp_walk using wpAny_loadPart' hl))
    exact ⟨_, rfl, h⟩
theorem op_repT0 : OpR X (binaryOp .Mult) (fun x y H Q => ∃ l k, x = .ref l ∧ y = .int k ∧ 0 ≤ k ∧ k ≤ 1000 ∧ SqT X.K H l [] ∧ Q (.ref l) H) := by
  intro pins s σ H x y v u Q I rx ry h
  obtain ⟨l, k, rfl, rfl, h1, h2, hT, q⟩ := h
  cases rx
  obtain ⟨t, rfl⟩ := ry
  obtain ⟨its, r, ⟨⟨cls, dd, data, sl⟩, ho, hc, n, hd⟩, hs⟩ := I.tuple hT
  simp only at hc hd
  subst hc hd
  obtain rfl : its = [] := List.eq_nil_of_length_eq_zero r.length.symm
  have c0 : (decide (k < -(2 ^ 63)) || decide (k ≥ 2 ^ 63)) = false := by
    rw [decide_eq_false (by omega), decide_eq_false (by omega)] <;> rfl
  refine wpAny_binaryOp_repeat_ref (T := "tuple") (U := "int") (by decide) ⟨_, ho, rfl⟩ (fun s' => typeIs_int s' k t) noFill_tuple_mul F.fills_int_mul F.slot_int_rmul repeat_tuple F.slot_int_index.lookup
    (call_meets F.slot_int_rmul (typeIs_int s k t) F.entry_int_rmul (F.args_int_rmul_2 _ _) (int_rmul_tuple k t l _ n dd sl)
      ⟨ho, rfl, ⟨_, ho, rfl⟩, call_meets F.slot_tuple_mul ⟨_, ho, rfl⟩ F.entry_tuple_mul (F.args_tuple_mul_2 _ _) (tuple_mul0 l n dd sl k t c0) ⟨ho, ?_⟩⟩)
  exact ⟨.ref l, H, I, rfl, q⟩
def dMulT : D → D → Mem → Out D := fun x y M => match x, y with
  | .tup a, .int k => if k = 1 then .ok (.tup a) M else if a.length = 0 ∧ 0 ≤ k ∧ k ≤ 1000 then .ok (.tup a) M else dMul x y M
  | _, _ => dMul x y M
theorem od_mulT : OpR X (binaryOp .Mult) (rD X.K X.mg E dMulT) := by
  intro pins s σ H x y v u Q I rx ry h
  obtain ⟨ρ, M, dx, dy, R, r1, r2, hp⟩ := h
  unfold dMulT at hp
  split at hp
  · rename_i a k
    split at hp
    · rename_i hk
      subst hk
      cases r2
      have r1' := r1
      cases r1 with
      | tup hs t => exact op_repT1 pins s σ H _ _ v u Q I rx ry ⟨_, _, rfl, rfl, hs.sq, hp.here R _ r1'⟩
    · split at hp
      · rename_i hk
        cases r2
        have r1' := r1
        cases r1 with
        | tup hs t =>
          obtain rfl := List.eq_nil_of_length_eq_zero hk.1
          cases t
          exact op_repT0 pins s σ H _ _ v u Q I rx ry ⟨_, _, rfl, rfl, hk.2.1, hk.2.2, hs.sq, hp.here R _ r1'⟩
      · exact od_mul pins s σ H _ _ v u Q I rx ry ⟨ρ, M, _, _, R, r1, r2, hp⟩
  · exact od_mul pins s σ H _ _ v u Q I rx ry ⟨ρ, M, _, _, R, r1, r2, hp⟩

/-! ### keywords -/
abbrev JK (X : Cx) (E : XK) (kws : List Keyword) (f : SFs) : Prop := PK X kws (tA X.K X.mg E f)
theorem PK.weak {kws : List Keyword} {t t' : TA} (h : PK X kws t) (w : ∀ σ H Q, t' σ H Q → t σ H Q) : PK X kws t' := ⟨fun pos pins s σ H Q I q => h.run pos pins s σ H Q I (w σ H Q q)⟩
theorem jk_nil : JK X E [] fsNil := PK.weak pk_nil fun σ H Q ⟨ρ, M, σd, R, en, hp⟩ => hp.here R [] .nil
theorem jk_cons {nm : Option Str} {e : Expr} {kpos : Pos} {kws : List Keyword} {f : SF} {g : SFs} (h : JE X E e f) (h2 : JK X E kws g) : JK X E (⟨nm, e, kpos⟩ :: kws) (fsCons f g) := by
  refine PK.weak (pk_cons h h2) fun σ H Q ⟨ρ, M, σd, R, en, hp⟩ => ⟨ρ, M, σd, R, en, hp.bind.imp fun x M1 ρ1 H1 x1 R1 hp1 v rv => ?_⟩
  refine ⟨ρ1, M1, σd, R1, en.ext R x1, hp1.bind.imp fun xs M2 ρ2 H2 x2 R2 hp2 vs rvs => ?_⟩
  exact hp2.here R2 (v :: vs) (.cons (rv.ext R1 x2) rvs)
/-- f(k = e, ..), no positional value -/
theorem pe_callK0 {CX : CXT} {k : Nat} {f : Addr} {fd : FuncData} {ps ks : List Str} {sp : Sp} {E : XK} {x : Str} {p pos : Pos} {kws : List Keyword} {tk : TA} {g : List Value → List Value → List Value} {gV : List V → List V → List V}
    (F : FnG X.prog X.w X.K X.mg X.base CX k f fd ps sp) (gd : X.A.guards = some []) (hr : Room k X.A) (hg : Gl X x) (hm : X.mg x = some (.ref f)) (hk : PySem.W.keepIn X.K (.ref f) = true) (hb : KBinds X.K fd ps ks g gV) (hx : Passes CX X E)
    (hkw : PK X kws tk) (hall : (backToKw pos (keywordEach kws X.env)).all (·.1.isSome) = true := by rfl) (hks : (backToKw pos (keywordEach kws X.env)).filterMap (·.1) = ks := by rfl)
    (hdb : (x == ("__debug__" : Str)) = false := by decide)
    (hpl : ((backTo pos (starEach [] X.env)).any (·.1) || (backToKw pos (keywordEach kws X.env)).any (·.1.isNone)) = false := by rfl) :
    PE X (.Call (.Name x p) [] kws pos) (tCallK sp gV E tNil tk) := by
  refine ⟨fun pins s σ H Q I h => ?_⟩
  refine wpAny_Call_Name_kw (ld_glob I hg hm ?_ hdb)
  refine PySem.W.callWith_KW0 (h₀ := X.base) I.ok.mod.kin hk hall (thn (hkw.run pos pins s σ H _ I h) fun ws s2 ⟨zs, H2, I2, rz, q2⟩ => ⟨I2.kIn, ?_⟩) hpl
  rw [hks, List.nil_append]
  exact run_fnkG F gd hr hb hx I2 .nil rz q2
def permL {α : Type} (pm : List Nat) (d : α) (xs : List α) : List α := pm.map fun i => xs.getD i d
theorem vals_perm : ∀ (pm : List Nat) {zs : List V} {ws : List Value}, Vals zs ws → Vals (permL pm V.non zs) (permL pm Value.none ws)
  | [], _, _, _ => .nil
  | i :: pm, zs, ws, r => by
    refine .cons ?_ (vals_perm pm r)
    show RelV (zs[i]?.getD _) (ws[i]?.getD _)
    cases e : zs[i]? with
    | none =>
      have : ws[i]? = none := by rw [List.getElem?_eq_none_iff] at e ⊢; rw [← r.length]; exact e
      rw [this]; rfl
    | some z =>
      obtain ⟨u, eu, ru⟩ := r.get e
      rw [eu]; exact ru
theorem dens_perm {K : PySem.W.Frag} {ρ : Nu} {H : Hp} : ∀ (pm : List Nat) {ds : List D} {vs : List V}, Dens K ρ H ds vs → Dens K ρ H (permL pm D.non ds) (permL pm V.non vs)
  | [], _, _, _ => .nil
  | i :: pm, ds, vs, r => by
    refine .cons ?_ (dens_perm pm r)
    show Den K ρ H (ds[i]?.getD _) (vs[i]?.getD _)
    cases e : ds[i]? with
    | none =>
      have : vs[i]? = none := by rw [List.getElem?_eq_none_iff] at e ⊢; rw [← r.length]; exact e
      rw [this]; exact .non
    | some z =>
      obtain ⟨u, eu, ru⟩ := r.get e
      rw [eu]; exact ru
def kG (pm : List Nat) (n : Nat) (us ws : List Value) : List Value := match us with
  | [] => if ws.length = n then permL pm .none ws else []
  | _ => []
def kGV (pm : List Nat) (n : Nat) (us ws : List V) : List V := match us with
  | [] => if ws.length = n then permL pm .non ws else []
  | _ => []
theorem kbinds {K : PySem.W.Frag} {fd : FuncData} {ps ks : List Str} {pm : List Nat} (hp : ps ≠ []) (h : ∀ ws : List Value, ws.length = ks.length → bindArgs fd ⟨[], ks.zip ws⟩ = pure (ps.zip (permL pm .none ws))) : KBinds K fd ps ks (kG pm ks.length) (kGV pm ks.length) := by
  refine ⟨fun s us ws _ hl => ?_, fun {vs us zs ws} r rz => ?_⟩
  · unfold kG at hl ⊢
    have ne : ¬ ([] : List Value).length = ps.length := fun e => hp (List.eq_nil_of_length_eq_zero e.symm)
    cases us with
    | cons a b => exact absurd hl ne
    | nil =>
      dsimp only at hl ⊢
      split at hl
      · rename_i he
        rw [if_pos he]
        exact .of_eq (h ws he)
      · exact absurd hl ne
  · unfold kG kGV
    cases r with
    | cons _ _ => exact .nil
    | nil =>
      dsimp only
      rw [rz.length]
      split
      · exact vals_perm pm rz
      · exact .nil
/-- a call of a def, the arguments by their names -/
def fCallK (pm : List Nat) (n : Nat) (g : List D → Mem → Out D) (fa : SFs) : SF := fun σ M => (fa σ M).bind fun ds M1 => if ds.length = n then g (permL pm .non ds) M1 else .bad
theorem ccallK {N : List Str} {sc : Scope} {kn : List (Option NameKind)} {own : List Nat} {k j : Nat} (C : Ctx X E N sc kn own k) {x : Str} {ps : List Str} {g : List D → Mem → Out D} {fa : SFs} {kws : List Keyword} {p pos : Pos} {st : Stmt} (F : Has X.prog X.w X.K X.mg X.base j x st ps g) (ks : List Str) (pm : List Nat) (ha : JK X E kws fa)
    (hbd : ∀ (q : Str) (kV doc pmv : Value) (an : Option Addr) (cdv ct : Value) (ws : List Value), ws.length = ks.length → bindArgs (PySem.W.fnOf q q (defArgs st) (defBody st) (defScope st) .none kV doc pmv an cdv ct) ⟨[], ks.zip ws⟩ = pure (ps.zip (permL pm .none ws)))
    (hl : pm.length = ps.length := by rfl) (hp : ps ≠ [] := by simp)
    (hj : j ≤ k := by decide) (hg : sc.names.lookup x = some .globalImplicit := by decide +kernel)
    (hall : (backToKw pos (keywordEach kws X.env)).all (·.1.isSome) = true := by rfl) (hks : (backToKw pos (keywordEach kws X.env)).filterMap (·.1) = ks := by rfl)
    (hdb : (x == ("__debug__" : Str)) = false := by decide +kernel)
    (hpl : ((backTo pos (starEach [] X.env)).any (·.1) || (backToKw pos (keywordEach kws X.env)).any (·.1.isNone)) = false := by rfl) :
    JE X E (.Call (.Name x p) [] kws pos) (fCallK pm ks.length g fa) := by
  obtain ⟨f, fd, F⟩ := F
  have hb : KBinds X.K fd ps ks (kG pm ks.length) (kGV pm ks.length) := by
    obtain ⟨qn, kV, doc, pmv, an, cdv, ct, e⟩ := F.src
    refine kbinds hp fun ws hw => ?_
    rw [e]
    exact hbd qn kV doc pmv an cdv ct ws hw
  refine PE.weak (pe_callK0 (E := E) F.ok C.gd (C.room.mono hj) (C.gl hg) F.mg F.kp hb C.pass ha hall hks hdb hpl) fun σ H Q ⟨ρ, M, σd, R, en, hp⟩ => ?_
  refine ⟨ρ, M, σd, R, en, hp.bind.imp fun ds M1 ρ1 H1 x1 R1 hp1 vs rvs => ?_⟩
  split at hp1
  · rename_i hn
    refine ⟨ρ1, M1, permL pm .non ds, R1, ?_, ?_, hp1⟩
    · show Dens _ _ _ _ (kGV pm ks.length [] vs)
      unfold kGV
      dsimp only
      rw [if_pos (by rw [← rvs.length, hn])]
      exact dens_perm pm rvs
    · show (kGV pm ks.length [] vs).length = _
      unfold kGV permL
      dsimp only
      rw [if_pos (by rw [← rvs.length, hn]), List.length_map, hl]
  · exact hp1.elim

/-! ### list(range(..)), tuple(range(..)) -/
def JR (X : Cx) (E : XK) (e : Expr) (f : SD → Mem → Out (Int × Int)) : Prop := PRg X e fun σ H Q => ∃ ρ M σd, Rep X.K ρ M H ∧ EnvD X.K ρ H σd σ ∧ Post X.K X.mg E ρ H (f σd M) fun ij M' ρ' H' => Q ij.1 ij.2 H'
def fRg1 (f : SF) : SD → Mem → Out (Int × Int) := fun σ M => (f σ M).bind fun d M1 => match d with
  | .int j => .ok (0, j) M1
  | _ => .bad
def fRg2 (f g : SF) : SD → Mem → Out (Int × Int) := fun σ M => (f σ M).bind fun d M1 => (g σ M1).bind fun e M2 => match d, e with
  | .int i, .int j => .ok (i, j) M2
  | _, _ => .bad
theorem PRg.weak {e : Expr} {t t' : L2.St → Hp → (Int → Int → Hp → Prop) → Prop} (h : PRg X e t) (w : ∀ σ H Q, t' σ H Q → t σ H Q) : PRg X e t' := fun pins s σ H Q I q => h pins s σ H Q I (w σ H Q q)
def rgOk (i j : Int) : Bool := small62 i && small62 j && decide ((j - i).toNat ≤ 16777216)
theorem rgOk_ok {i j : Int} (h : rgOk i j = true) : RgOk i j := by
  unfold rgOk small62 at h
  simp only [Bool.and_eq_true, decide_eq_true_eq] at h
  exact ⟨h.1.1.1, h.1.1.2, h.1.2.1, h.1.2.2, h.2⟩
theorem dens_rng {K : PySem.W.Frag} {ρ : Nu} {H : Hp} (i j : Int) : Dens K ρ H (rngL i (j - i).toNat) (rgV i j) := by
  refine Dens.of_get ?_ ?_
  · unfold rngL rgV; simp
  · intro k d v e1 e2
    unfold rngL at e1
    unfold rgV at e2
    rw [List.getElem?_map] at e1 e2
    cases q : (List.range (j - i).toNat)[k]? with
    | none => rw [q] at e1; cases e1
    | some z =>
      rw [q] at e1 e2
      cases e1; cases e2
      exact .int _
theorem jr_1 {a : Expr} {f : SF} {p pos : Pos} {N : List Str} {sc : Scope} {kn : List (Option NameKind)} {own : List Nat} {k : Nat} (C : Ctx X E N sc kn own k) (hm : X.mg "range" = none) (ha : JE X E a f) (hg : sc.names.lookup (Str.ofString "range") = some .globalImplicit := by decide +kernel) (na : starEach [a] X.env = (false, eval a X.env) :: starEach [] X.env := by rfl) : JR X E (.Call (.Name "range" p) [a] [] pos) (fRg1 f) := by
  refine PRg.weak (prg_1 (C.gl hg) hm ha na) fun σ H Q ⟨ρ, M, σd, R, en, hp⟩ => ⟨ρ, M, σd, R, en, hp.bind.imp fun d M1 ρ1 H1 x1 R1 hp1 v rv => ?_⟩
  split at hp1
  · cases rv
    exact ⟨_, rfl, hp1.here R1⟩
  · exact hp1.elim
theorem jr_2 {a b : Expr} {f g : SF} {p pos : Pos} {N : List Str} {sc : Scope} {kn : List (Option NameKind)} {own : List Nat} {k : Nat} (C : Ctx X E N sc kn own k) (hm : X.mg "range" = none) (ha : JE X E a f) (hb : JE X E b g) (hg : sc.names.lookup (Str.ofString "range") = some .globalImplicit := by decide +kernel) (na : starEach [a, b] X.env = (false, eval a X.env) :: starEach [b] X.env := by rfl)
    (nb : starEach [b] X.env = (false, eval b X.env) :: starEach [] X.env := by rfl) (hpl : (backTo pos (starEach [b] X.env)).any (·.1) = false := by rfl) : JR X E (.Call (.Name "range" p) [a, b] [] pos) (fRg2 f g) := by
  refine PRg.weak (prg_2 (C.gl hg) hm ha hb na nb hpl) fun σ H Q ⟨ρ, M, σd, R, en, hp⟩ => ⟨ρ, M, σd, R, en, hp.bind.imp fun d M1 ρ1 H1 x1 R1 hp1 v rv => ?_⟩
  refine ⟨ρ1, M1, σd, R1, en.ext R x1, hp1.bind.imp fun e M2 ρ2 H2 x2 R2 hp2 u ru => ?_⟩
  have rv2 := rv.ext R1 x2
  split at hp2
  · cases rv2; cases ru
    exact ⟨_, _, rfl, rfl, hp2.here R2⟩
  · exact hp2.elim
def fLRg (f : SD → Mem → Out (Int × Int)) : SF := fun σ M => (f σ M).bind fun ij M1 => if rgOk ij.1 ij.2 = true then .ok (.lst (rngL ij.1 (ij.2 - ij.1).toNat)) M1 else .bad
def fLRgN (f : SD → Mem → Out (Int × Int)) : SF := fun σ M => (f σ M).bind fun ij M1 => if rgOk ij.1 ij.2 = true then .ok (.ref M1.length) (M1 ++ [.lst (rngL ij.1 (ij.2 - ij.1).toNat)]) else .bad
def fTRg (f : SD → Mem → Out (Int × Int)) : SF := fun σ M => (f σ M).bind fun ij M1 => if rgOk ij.1 ij.2 = true then .ok (.tup (rngL ij.1 (ij.2 - ij.1).toNat)) M1 else .bad
section
variable {N : List Str} {sc : Scope} {kn : List (Option NameKind)} {own : List Nat} {k : Nat} {e : Expr} {f : SD → Mem → Out (Int × Int)} {p pos : Pos}
theorem clrg (C : Ctx X E N sc kn own k) (hm : X.mg "list" = none) (he : JR X E e f) (hg : sc.names.lookup (Str.ofString "list") = some .globalImplicit := by decide +kernel) (na : starEach [e] X.env = (false, eval e X.env) :: starEach [] X.env := by rfl) : JE X E (.Call (.Name "list" p) [e] [] pos) (fLRg f) := by
  refine PE.weak (pe_listRg C.calm (C.gl hg) hm he na) fun σ H Q ⟨ρ, M, σd, R, en, hp⟩ => ⟨ρ, M, σd, R, en, hp.bind.imp fun ij M1 ρ1 H1 x1 R1 hp1 => ?_⟩
  split at hp1
  · rename_i hs
    exact ⟨rgOk_ok hs, hp1.lstTmp R1 (dens_rng _ _)⟩
  · exact hp1.elim
theorem clrgN (C : Ctx X E N sc kn own k) (hm : X.mg "list" = none) (he : JR X E e f) (hg : sc.names.lookup (Str.ofString "list") = some .globalImplicit := by decide +kernel) (na : starEach [e] X.env = (false, eval e X.env) :: starEach [] X.env := by rfl) : JE X E (.Call (.Name "list" p) [e] [] pos) (fLRgN f) := by
  refine PE.weak (pe_listRg C.calm (C.gl hg) hm he na) fun σ H Q ⟨ρ, M, σd, R, en, hp⟩ => ⟨ρ, M, σd, R, en, hp.bind.imp fun ij M1 ρ1 H1 x1 R1 hp1 => ?_⟩
  split at hp1
  · rename_i hs
    exact ⟨rgOk_ok hs, hp1.lstNew R1 (dens_rng _ _)⟩
  · exact hp1.elim
theorem ctrg (C : Ctx X E N sc kn own k) (hm : X.mg "tuple" = none) (he : JR X E e f) (hg : sc.names.lookup (Str.ofString "tuple") = some .globalImplicit := by decide +kernel) (na : starEach [e] X.env = (false, eval e X.env) :: starEach [] X.env := by rfl) : JE X E (.Call (.Name "tuple" p) [e] [] pos) (fTRg f) := by
  refine PE.weak (pe_tupRg C.calm (C.gl hg) hm he na) fun σ H Q ⟨ρ, M, σd, R, en, hp⟩ => ⟨ρ, M, σd, R, en, hp.bind.imp fun ij M1 ρ1 H1 x1 R1 hp1 => ?_⟩
  split at hp1
  · rename_i hs
    exact ⟨rgOk_ok hs, hp1.tupNew R1 (dens_rng _ _)⟩
  · exact hp1.elim
end
end
end KP

/-! enumerate, zip -/
namespace KP
open PySem PySem.Spec PyProof.Rows L2
inductive Src where
  | ls (a : Addr)
  | tp (a : Addr)
  | tx (z : Str) (t : Tok)
def Src.addrs : Src → List Addr
  | .ls a => [a]
  | .tp a => [a]
  | .tx _ _ => []
def Src.go (K : PySem.W.Frag) (i : Nat) (H : Hp) : Src → Prop
  | .ls a => ∃ (xs : List V) (x : V), SqL K H a xs ∧ xs[i]? = some x
  | .tp a => ∃ (xs : List V) (x : V), SqT K H a xs ∧ xs[i]? = some x
  | .tx z _ => i < z.cps.size
def Src.at (K : PySem.W.Frag) (i : Nat) (H : Hp) (x : V) : Src → Prop
  | .ls a => ∀ xs : List V, SqL K H a xs → xs[i]? = some x
  | .tp a => ∀ xs : List V, SqT K H a xs → xs[i]? = some x
  | .tx z _ => ∃ c, z.cps[i]? = some c ∧ x = .str ⟨#[c]⟩
def Src.stop (K : PySem.W.Frag) (i : Nat) (H : Hp) : Src → Prop
  | .ls a => ∃ xs : List V, SqL K H a xs ∧ xs.length = i
  | .tp a => ∃ xs : List V, SqT K H a xs ∧ xs.length = i
  | .tx z _ => z.cps.size = i
def Src.iter (it : Addr) (i : Nat) (h : Heap) : Src → Prop
  | .ls a => h.IsListIter it a i
  | .tp a => h.IsTupleIter it a i
  | .tx z t => h.IsStrIter it (strIterType z) z t i
theorem Src.iter_obj {it : Addr} {i : Nat} {h : Heap} : ∀ {s : Src}, s.iter it i h → ∃ o, h.get? it = some o ∧ ∀ v, o.data ≠ .cell v
  | .ls a, ⟨o, e, c, d⟩ => ⟨o, e, fun v z => by rw [d] at z; cases z⟩
  | .tp a, ⟨o, e, c, d⟩ => ⟨o, e, fun v z => by rw [d] at z; cases z⟩
  | .tx z t, ⟨o, e, c, d⟩ => ⟨o, e, fun v z => by rw [d] at z; cases z⟩
theorem Src.iter_keep {it : Addr} {i : Nat} {h h' : Heap} (k : ∀ o, h.get? it = some o → h'.get? it = some o) : ∀ {s : Src}, s.iter it i h → s.iter it i h'
  | .ls a, st => st.at fun o e => k o e
  | .tp a, st => st.at fun o e => k o e
  | .tx z t, ⟨o, e, c, d⟩ => ⟨o, k o e, c, d⟩
theorem vals_back {xs : List V} {us : List Value} {i : Nat} {u : Value} (h : Vals xs us) (e : us[i]? = some u) : ∃ x, xs[i]? = some x ∧ RelV x u := by
  cases q : xs[i]? with
  | none =>
    rw [List.getElem?_eq_none_iff, h.length] at q
    rw [List.getElem?_eq_none_iff.mpr q] at e; cases e
  | some x =>
    obtain ⟨w, e2, r⟩ := h.get q
    rw [e] at e2; cases e2
    exact ⟨x, rfl, r⟩
section
variable {X : Cx}
/-- what a source's iterator draws from a state -/
theorem src_draws {pins : List (Addr × Obj)} {σ : L2.St} {H : Hp} {s : Shared} (hc : X.calm = true) (I : Inv X pins σ H s) {src : Src} {it : Addr} {i : Nat} (hit : src.iter it i s.heap) (hne : it ∉ src.addrs) (hg : src.go X.K i H ∨ src.stop X.K i H) :
    ∃ (n : Nat) (P : Nat → Value → Prop) (St : Nat → Heap → Prop), Draws X.prog X.w X.A.in1 it (it :: src.addrs) n P St ∧ St i s.heap ∧ (∀ j h', St j h' → src.iter it j h') ∧ (∀ u, P i u → ∃ x, RelV x u ∧ src.at X.K i H x) ∧ (src.go X.K i H → i < n) ∧ (src.stop X.K i H → i = n) ∧ i ≤ n := by
  have hh : X.A.in1.handled = none := I.ok.hd hc
  cases src with
  | ls a =>
    have hne : a ≠ it := fun e => hne (by subst e; exact List.mem_singleton_self _)
    obtain ⟨xs, hq⟩ : ∃ xs, SqL X.K H a xs := by
      rcases hg with ⟨xs, x, q, _⟩ | ⟨xs, q, _⟩
      · exact ⟨xs, q⟩
      · exact ⟨xs, q⟩
    obtain ⟨its, rv, p, hz⟩ := I.list hq
    have hl : its.toArray.size = xs.length := by rw [List.size_toArray, ← rv.length]
    refine ⟨its.toArray.size, _, _, Draws.list hh it a hne its.toArray, ⟨hit, p.isList⟩, fun j h' st => st.1, fun u hu => ?_, fun ⟨ys, y, q, e⟩ => ?_, fun ⟨ys, q, e⟩ => ?_, ?_⟩
    · rw [List.getElem?_toArray] at hu
      obtain ⟨x, ex, rx⟩ := vals_back rv hu
      exact ⟨x, rx, fun ys hy => by rw [I.list_inj hy hq]; exact ex⟩
    · rw [I.list_inj q hq] at e
      rw [hl]; exact (List.getElem?_eq_some_iff.mp e).1
    · rw [I.list_inj q hq] at e
      rw [hl]; exact e.symm
    · rw [hl]
      rcases hg with ⟨ys, y, q, e⟩ | ⟨ys, q, e⟩
      · rw [I.list_inj q hq] at e
        exact Nat.le_of_lt (List.getElem?_eq_some_iff.mp e).1
      · rw [I.list_inj q hq] at e
        omega
  | tp a =>
    have hne : a ≠ it := fun e => hne (by subst e; exact List.mem_singleton_self _)
    obtain ⟨xs, hq⟩ : ∃ xs, SqT X.K H a xs := by
      rcases hg with ⟨xs, x, q, _⟩ | ⟨xs, q, _⟩
      · exact ⟨xs, q⟩
      · exact ⟨xs, q⟩
    obtain ⟨its, rv, p, hz⟩ := I.tuple hq
    have hl : its.toArray.size = xs.length := by rw [List.size_toArray, ← rv.length]
    refine ⟨its.toArray.size, _, _, Draws.tuple hh it a hne its.toArray, ⟨hit, (show s.heap.IsTuple a its.toArray from p)⟩, fun j h' st => st.1, fun u hu => ?_, fun ⟨ys, y, q, e⟩ => ?_, fun ⟨ys, q, e⟩ => ?_, ?_⟩
    · rw [List.getElem?_toArray] at hu
      obtain ⟨x, ex, rx⟩ := vals_back rv hu
      exact ⟨x, rx, fun ys hy => by rw [I.tuple_inj hy hq]; exact ex⟩
    · rw [I.tuple_inj q hq] at e
      rw [hl]; exact (List.getElem?_eq_some_iff.mp e).1
    · rw [I.tuple_inj q hq] at e
      rw [hl]; exact e.symm
    · rw [hl]
      rcases hg with ⟨ys, y, q, e⟩ | ⟨ys, q, e⟩
      · rw [I.tuple_inj q hq] at e
        exact Nat.le_of_lt (List.getElem?_eq_some_iff.mp e).1
      · rw [I.tuple_inj q hq] at e
        omega
  | tx z t =>
    refine ⟨z.cps.size, _, _, Draws.text hh it z t, hit, fun j h' st => st, fun u ⟨c, w, e, eu⟩ => ⟨.str ⟨#[c]⟩, by subst eu; exact ⟨w, rfl⟩, c, e, rfl⟩, fun q => q, fun q => q.symm, ?_⟩
    rcases hg with q | q
    · exact Nat.le_of_lt q
    · exact Nat.le_of_eq (show i = z.cps.size from (show z.cps.size = i from q).symm)
end
def IteS (K : PySem.W.Frag) (src : Src) : It :=
  ⟨fun i H => src.go K i H, fun i H v H' => ∃ T x, v = .ref T ∧ H T = none ∧ H' = upd H T (.tup [.int (i : Nat), x]) ∧ src.at K i H x, fun i H => src.stop K i H⟩
theorem turn_enumS {P : Program} {w : World} {K : PySem.W.Frag} {elts : List Expr} {kk : Nat} {tpos : Pos} (src : Src) (e it : Addr) (hne : e ≠ it) (h1 : it ∉ src.addrs) (h2 : e ∉ src.addrs) :
    Turn P w K (.Tuple elts kk tpos) (IteS K src) [e, it] e (fun i h => (∃ old, IsEnum h e it ((i : Nat) : Int) old) ∧ src.iter it i h) where
  mem := by simp
  obj := fun i h st b hb => by
    obtain ⟨⟨old, he⟩, hi⟩ := st
    have e' : b = e ∨ b = it := by simpa using hb
    rcases e' with z | z
    · rw [z]; exact ⟨_, he, fun v q => nomatch q⟩
    · rw [z]; exact Src.iter_obj hi
  keep := fun i h h' st k => let ⟨⟨old, he⟩, hi⟩ := st; ⟨⟨old, k e (by simp) _ he⟩, Src.iter_keep (fun o q => k it (by simp) o q) hi⟩
  item := by
    intro X hP hw hK hc i pins s σ H E I hf st hg
    subst hP hw hK
    obtain ⟨⟨old, he⟩, hit⟩ := st
    obtain ⟨n, P, St, Dr, hst, hback, hat, hlt, _, _⟩ := src_draws hc I hit h1 (.inl hg)
    have hel : e < s.heap.objs.size := Heap.lt_size he
    have hil : it < s.heap.objs.size := by obtain ⟨_, q, _⟩ := Src.iter_obj hit; exact Heap.lt_size q
    refine wpAny_pyNext_enum_itemC Dr he hst (hlt hg) hne (by simp [hne, h2]) fun u h' tk hPu ho hst' hT hsz hk => ?_
    obtain ⟨x, ru, hx⟩ := hat u hPu
    refine ⟨_, rfl, wpAny_letOwnedTupleGo_enum (s := { s with heap := h', toks := tk + 1 }) ho fun h'' he' sb => ?_⟩
    have hT2 : h''.get? s.heap.objs.size = some { cls := .type "tuple", data := .seq #[.int i tk, u] } := (sb.2 _ (Nat.ne_of_gt hel)).trans hT
    have new : ObjOk X.prog X.w (upd H s.heap.objs.size (.tup [.int (i : Nat), x])) h'' s.heap.objs.size (.tup [.int (i : Nat), x]) :=
      ⟨by show 2 ≤ sizeLine; decide, [.int i tk, u], .cons ⟨_, rfl⟩ (.cons ru .nil), ⟨_, hT2, rfl, _, rfl⟩⟩
    have I1 : Inv X pins σ (upd H s.heap.objs.size (.tup [.int (i : Nat), x])) { s with heap := h'', toks := tk + 1 } :=
      I.turnedNew (ch := [e, it]) (fun b ob hb q => (sb.2 b (fun z => hb (by simp [z]))).trans (hk b ob (fun z => hb (by simp [z])) (fun z => hb (by simp [z])) q)) hf (Nat.le_refl _) new
    refine ⟨.ref s.heap.objs.size, _, I1, rfl, ⟨_, x, rfl, I.hok.fresh (Nat.le_refl _), rfl, hx⟩, ⟨⟨u, ?_⟩, Src.iter_keep (fun o q => (sb.2 it (Ne.symm hne)).trans q) (hback _ _ hst')⟩, fun b hb => ?_⟩
    · have e1 : ((i + 1 : Nat) : Int) = (i : Int) + 1 := by omega
      rw [e1]; exact he'
    · have hb' : b < s.heap.objs.size := by
        have e' : b = e ∨ b = it := by simpa using hb
        rcases e' with z | z
        · rw [z]; exact hel
        · rw [z]; exact hil
      rw [upd_ne (Nat.ne_of_lt hb')]
      exact (hf b hb).1
  done := by
    intro X hP hw hK hc i pins s σ H E I hf st hg
    subst hP hw hK
    obtain ⟨⟨old, he⟩, hit⟩ := st
    obtain ⟨n, P, St, Dr, hst, _, _, _, hend, _⟩ := src_draws hc I hit h1 (.inr hg)
    obtain ⟨f0, f1, f2, f3, f4, f5⟩ := hf it (by simp)
    rw [hend hg] at hst
    exact wpAny_pyNext_enum_endD Dr he hst fun h' eb => ⟨rfl, I.turned (t' := s.toks) (fun b o hb q => eb b o hb q) f0 f1 f3 f4 f5⟩
  self := fun A i s Q E st h => let ⟨⟨_, he⟩, _⟩ := st; wpAny_pyIter_enum he h
def ItzS (K : PySem.W.Frag) (a b : Src) : It :=
  ⟨fun i H => a.go K i H ∧ b.go K i H, fun i H v H' => ∃ T x y, v = .ref T ∧ H T = none ∧ H' = upd H T (.tup [x, y]) ∧ a.at K i H x ∧ b.at K i H y,
    fun i H => (a.go K i H ∨ a.stop K i H) ∧ (b.go K i H ∨ b.stop K i H) ∧ (a.stop K i H ∨ b.stop K i H)⟩
theorem turn_zipS {P : Program} {w : World} {K : PySem.W.Frag} {elts : List Expr} {kk : Nat} {tpos : Pos} {z TI TO i1 i2 : Addr} (a b : Src) (D : ZipSep2 z TI TO i1 i2 (i1 :: a.addrs) (i2 :: b.addrs)) (h1 : i1 ∉ a.addrs) (h2 : i2 ∉ b.addrs) :
    Turn P w K (.Tuple elts kk tpos) (ItzS K a b) [z, TI, TO, i1, i2] z (fun i h => IsZip h z TI TO .none ∧ IsTupOf2 h TI (.ref i1) (.ref i2) ∧ (∃ x y, IsTupOf2 h TO x y) ∧ a.iter i1 i h ∧ b.iter i2 i h) where
  mem := by simp
  obj := fun i h st c hc => by
    obtain ⟨hz, hTI, ⟨x, y, hTO⟩, s1, s2⟩ := st
    have e' : c = z ∨ c = TI ∨ c = TO ∨ c = i1 ∨ c = i2 := by simpa using hc
    rcases e' with q | q | q | q | q
    · rw [q]; exact ⟨_, hz, fun v q => nomatch q⟩
    · rw [q]; exact ⟨_, hTI, fun v q => nomatch q⟩
    · rw [q]; exact ⟨_, hTO, fun v q => nomatch q⟩
    · rw [q]; exact Src.iter_obj s1
    · rw [q]; exact Src.iter_obj s2
  keep := fun i h h' st k => by
    obtain ⟨hz, hTI, ⟨x, y, hTO⟩, s1, s2⟩ := st
    exact ⟨k z (by simp) _ hz, k TI (by simp) _ hTI, ⟨x, y, k TO (by simp) _ hTO⟩, Src.iter_keep (fun o q => k i1 (by simp) o q) s1, Src.iter_keep (fun o q => k i2 (by simp) o q) s2⟩
  item := by
    intro X hP hw hK hc i pins s σ H E I hf st hg
    subst hP hw hK
    obtain ⟨hz, hTI, ⟨x0, y0, hTO⟩, s1, s2⟩ := st
    obtain ⟨n1, P1, St1, D1, st1, back1, at1, lt1, _, _⟩ := src_draws hc I s1 h1 (.inl hg.1)
    obtain ⟨n2, P2, St2, D2, st2, back2, at2, lt2, _, _⟩ := src_draws hc I s2 h2 (.inl hg.2)
    have hzl : z < s.heap.objs.size := Heap.lt_size hz
    refine wpAny_pyNext_zipD2_item D D1 D2 hz hTI hTO st1 st2 (lt1 hg.1) (lt2 hg.2) fun u u2 h' tk p1 p2 z' TO' t1 t2 hT hsz hk => ?_
    obtain ⟨x, ru, hx⟩ := at1 u p1
    obtain ⟨y, ru2, hy⟩ := at2 u2 p2
    refine ⟨_, rfl, wpAny_letOwnedTupleGo_zip (s := { s with heap := h', toks := tk }) z' fun h'' z'' sb => ?_⟩
    have hT2 : h''.get? s.heap.objs.size = some { cls := .type "tuple", data := .seq #[u, u2] } := (sb.2 _ (Nat.ne_of_gt hzl)).trans hT
    have new : ObjOk X.prog X.w (upd H s.heap.objs.size (.tup [x, y])) h'' s.heap.objs.size (.tup [x, y]) :=
      ⟨by show 2 ≤ sizeLine; decide, [u, u2], .cons ru (.cons ru2 .nil), ⟨_, hT2, rfl, _, rfl⟩⟩
    have I1 : Inv X pins σ (upd H s.heap.objs.size (.tup [x, y])) { s with heap := h'', toks := tk } :=
      I.turnedNew (t' := tk) (ch := [z, TI, TO, i1, i2]) (fun c o hb q => (sb.2 c (fun q' => hb (by simp [q']))).trans (hk c o (fun q' => hb (by simp [q'])) (fun q' => hb (by simp [q'])) (fun q' => hb (by simp [q'])) (fun q' => hb (by simp [q'])) q)) hf (Nat.le_refl _) new
    have i1l : i1 < s.heap.objs.size := by obtain ⟨_, q, _⟩ := Src.iter_obj s1; exact Heap.lt_size q
    have i2l : i2 < s.heap.objs.size := by obtain ⟨_, q, _⟩ := Src.iter_obj s2; exact Heap.lt_size q
    have i1z : i1 ≠ z := fun e => D.zf1 (by rw [← e]; exact List.mem_cons_self ..)
    have i2z : i2 ≠ z := fun e => D.zf2 (by rw [← e]; exact List.mem_cons_self ..)
    refine ⟨.ref s.heap.objs.size, _, I1, rfl, ⟨_, x, y, rfl, I.hok.fresh (Nat.le_refl _), rfl, hx, hy⟩, ⟨z'', ?_, ⟨u, u2, ?_⟩, ?_, ?_⟩, fun c hcm => ?_⟩
    · exact (sb.2 _ D.TIz).trans (hk _ _ D.TIz D.TITO D.TIi1 D.TIi2 hTI)
    · exact (sb.2 _ D.TOz).trans TO'
    · exact Src.iter_keep (fun o q => (sb.2 _ i1z).trans q) (back1 _ _ t1)
    · exact Src.iter_keep (fun o q => (sb.2 _ i2z).trans q) (back2 _ _ t2)
    · have hlt : c < s.heap.objs.size := by
        have e' : c = z ∨ c = TI ∨ c = TO ∨ c = i1 ∨ c = i2 := by simpa using hcm
        rcases e' with q | q | q | q | q
        · rw [q]; exact hzl
        · rw [q]; exact Heap.lt_size hTI
        · rw [q]; exact Heap.lt_size hTO
        · rw [q]; exact i1l
        · rw [q]; exact i2l
      rw [upd_ne (Nat.ne_of_lt hlt)]
      exact (hf c hcm).1
  done := by
    intro X hP hw hK hc i pins s σ H E I hf st hg
    subst hP hw hK
    obtain ⟨hz, hTI, ⟨x0, y0, hTO⟩, s1, s2⟩ := st
    obtain ⟨g1, g2, ge⟩ := hg
    obtain ⟨n1, P1, St1, D1, st1, _, _, _, e1, l1⟩ := src_draws hc I s1 h1 g1
    obtain ⟨n2, P2, St2, D2, st2, _, _, _, e2, l2⟩ := src_draws hc I s2 h2 g2
    refine wpAny_pyNext_zipD2_end D D1 D2 hz hTI hTO st1 st2 l1 l2 (ge.imp e1 e2) fun h' tk hk => ⟨rfl, I.turnedL (t' := tk) (ch := [z, TI, TO, i1, i2]) (fun c o hb q =>
      hk c o (fun q' => hb (by simp [q'])) (fun q' => hb (by simp [q'])) (fun q' => hb (by simp [q'])) (fun q' => hb (by simp [q'])) q) hf⟩
  self := fun A i s Q E st h => wpAny_pyIter_zip st.1 h
theorem meets_enum1 {v : Value} {o : Obj} {H : Heap → Prop} (B : Begins v o H) :
    Meets (Builtin.«enumerate.__new__» ⟨[.type "enumerate", v], []⟩) (fun _ R s => H s.heap ∧
      R (.ok (.ret (.ref (s.heap.push o).objs.size))) { s with heap := (s.heap.push o).push { cls := .type "enumerate", data := .fields #[.none, .bool false, .ref s.heap.objs.size, rawInt 0, .none, .none] } }) :=
  .of_wp fun prog w A R s h => by
    obtain ⟨hp, g, d, tk, os⟩ := s; obtain ⟨h1, h⟩ := h
    have hsub := sub_enumerate
    have q1 : ∀ {A' : Around} {E : Value → Shared → Prop} {Q : Value → Shared → Prop}, Q (.ref hp.objs.size) ⟨hp.push o, g, d, tk, os⟩ → wpAny (model prog w) A' (pyIter v) Q E ⟨hp, g, d, tk, os⟩ :=
      fun q => B.iter prog w _ _ ⟨hp, g, d, tk, os⟩ _ h1 q
    wp_walk using q1
    refine wpAny_stack_any fun st => wpAny_pure ?_
    split
    · rename_i c _ _ _ _ _
      cases (c == Value.type "enumerate")
      · wp_walk using q1
        exact ⟨_, rfl, h⟩
      · wp_walk using q1
        exact ⟨_, rfl, h⟩
    · wp_walk using q1
      exact ⟨_, rfl, h⟩
theorem enum_begins1 {prog : Program} {w : World} {A : Around} {E : Value → Shared → Prop} {s : Shared} {v : Value} {o : Obj} {H : Heap → Prop} {Q : Value → Shared → Prop} (B : Begins v o H) (h1 : H s.heap)
    (h : ∀ h', IsEnum h' (s.heap.objs.size + 1) s.heap.objs.size 0 .none → h'.get? s.heap.objs.size = some o → h'.objs.size = s.heap.objs.size + 2 →
      (∀ b o, s.heap.get? b = some o → h'.get? b = some o) → Q (.ref (s.heap.objs.size + 1)) { s with heap := h' }) :
    wpAny (model prog w) A (call (.type "enumerate") [v]) Q E s := by
  refine callType_new F.called_enumerate (by decide) (F.typeCall_enumerate_1 _) (F.newCall_enumerate_1 _) (fun obj => F.args_object_init_2 obj _) F.entry_enumerate_new
    (meets_enum1 B) ⟨h1, ?_⟩
  have hz : (s.heap.push o).objs.size = s.heap.objs.size + 1 := Heap.size_push ..
  show _ ∧ _
  rw [hz]
  have he : IsEnum ((s.heap.push o).push { cls := .type "enumerate", data := .fields #[.none, .bool false, .ref s.heap.objs.size, rawInt 0, .none, .none] }) (s.heap.objs.size + 1) s.heap.objs.size 0 .none := by
    have := Heap.get?_push_size (s.heap.push o) (o := { cls := .type "enumerate", data := .fields #[.none, .bool false, .ref s.heap.objs.size, rawInt 0, .none, .none] }) rfl
    rw [hz] at this; exact this
  refine ⟨⟨_, he, rfl⟩, h _ he (Heap.get?_push_of_some _ (Heap.get?_push_size _ B.free)) (by rw [Heap.size_push, hz]) fun b o x => Heap.get?_push_of_some _ (Heap.get?_push_of_some _ x)⟩

/-! ### a source, told by data -/
def ivsO (d : D) (M : Mem) : Option IVS := match d with
  | .lst xs => some (.st xs)
  | .fl xs => some (.st xs)
  | .tup xs => some (.st xs)
  | .str z => some (.st (z.map fun c => .str [c]))
  | .ref n => match M[n]? with
    | some (.lst _) => some (.lv n)
    | _ => none
  | _ => none
/-- the value v is the source src -/
def SrcV (src : Src) (v : V) (u : Value) : Prop := match src with
  | .ls a => v = .ref a ∧ u = .ref a
  | .tp a => v = .ref a ∧ u = .ref a
  | .tx z t => v = .str z ∧ u = .str z t
def SrcOk (K : PySem.W.Frag) (s : IVS) (src : Src) (ρ : Nu) (H : Hp) : Prop :=
  ∀ ρ2 M2 H2, ExtR ρ H ρ2 H2 → Rep K ρ2 M2 H2 → ∀ i, (∀ d, ivsAt s i M2 = some (some d) → src.go K i H2 ∧ ∀ x, src.at K i H2 x → Den K ρ2 H2 d x) ∧ (ivsAt s i M2 = some none → src.stop K i H2)
theorem ivs_st {xs : List D} {i : Nat} {M : Mem} {o : Option D} (h : ivsAt (.st xs) i M = some o) : i ≤ xs.length ∧ xs[i]? = o := by
  unfold ivsAt at h
  dsimp only at h
  split at h
  · exact ⟨by assumption, Option.some.inj h⟩
  · cases h
theorem src_lst {K : PySem.W.Frag} {ρ : Nu} {H : Hp} {a : Addr} {ds : List D} (h : ∀ ρ2 M2 H2, ExtR ρ H ρ2 H2 → Rep K ρ2 M2 H2 → ∃ vs, SqL K H2 a vs ∧ Dens K ρ2 H2 ds vs) : SrcOk K (.st ds) (.ls a) ρ H := by
  intro ρ2 M2 H2 x R i
  obtain ⟨vs, hq, t⟩ := h ρ2 M2 H2 x R
  refine ⟨fun d e => ?_, fun e => ?_⟩
  · obtain ⟨_, e⟩ := ivs_st e
    obtain ⟨v, ev, r⟩ := t.get e
    refine ⟨⟨vs, v, hq, ev⟩, fun y hy => ?_⟩
    have := hy vs hq
    rw [ev] at this; cases this; exact r
  · obtain ⟨hl, e⟩ := ivs_st e
    have := List.getElem?_eq_none_iff.mp e
    exact ⟨vs, hq, by rw [← t.length]; omega⟩
theorem src_tup {K : PySem.W.Frag} {ρ : Nu} {H : Hp} {a : Addr} {ds : List D} (h : ∀ ρ2 M2 H2, ExtR ρ H ρ2 H2 → Rep K ρ2 M2 H2 → ∃ vs, SqT K H2 a vs ∧ Dens K ρ2 H2 ds vs) : SrcOk K (.st ds) (.tp a) ρ H := by
  intro ρ2 M2 H2 x R i
  obtain ⟨vs, hq, t⟩ := h ρ2 M2 H2 x R
  refine ⟨fun d e => ?_, fun e => ?_⟩
  · obtain ⟨_, e⟩ := ivs_st e
    obtain ⟨v, ev, r⟩ := t.get e
    refine ⟨⟨vs, v, hq, ev⟩, fun y hy => ?_⟩
    have := hy vs hq
    rw [ev] at this; cases this; exact r
  · obtain ⟨hl, e⟩ := ivs_st e
    have := List.getElem?_eq_none_iff.mp e
    exact ⟨vs, hq, by rw [← t.length]; omega⟩
theorem src_of {X : Cx} {pins : List (Addr × Obj)} {σ : L2.St} {s : Shared} {ρ : Nu} {M : Mem} {H : Hp} {d : D} {v : V} {u : Value} {iv : IVS} (I : Inv X pins σ H s) (R : Rep X.K ρ M H) (r : Den X.K ρ H d v) (ru : RelV v u) (h : ivsO d M = some iv) :
    ∃ src, SrcV src v u ∧ SrcOk X.K iv src ρ H ∧ (∀ a ∈ src.addrs, a < s.heap.objs.size) ∧ ∃ (o : Obj) (Hs : Heap → Prop), Begins u o Hs ∧ Hs s.heap ∧ ∀ h' it, h'.get? it = some o → src.iter it 0 h' := by
  have mk : ∀ {a : Addr} {vs : List V} {iv : IVS}, u = .ref a → v = .ref a → SqL X.K H a vs → SrcOk X.K iv (.ls a) ρ H → ∃ src, SrcV src v u ∧ SrcOk X.K iv src ρ H ∧ (∀ a ∈ src.addrs, a < s.heap.objs.size) ∧ ∃ (o : Obj) (Hs : Heap → Prop), Begins u o Hs ∧ Hs s.heap ∧ ∀ h' it, h'.get? it = some o → src.iter it 0 h' := by
    intro a vs iv eu ev hq hs
    obtain ⟨its, rv, p, hz⟩ := I.list hq
    refine ⟨.ls a, ⟨ev, eu⟩, hs, fun b hb => ?_, _, _, by rw [eu]; exact begins_list a its.toArray, p.isList, fun h' it e => ⟨_, e, rfl, rfl⟩⟩
    have : b = a := by simpa [Src.addrs] using hb
    rw [this]; exact p.lt
  have mkt : ∀ {a : Addr} {vs : List V} {iv : IVS}, u = .ref a → v = .ref a → SqT X.K H a vs → SrcOk X.K iv (.tp a) ρ H → ∃ src, SrcV src v u ∧ SrcOk X.K iv src ρ H ∧ (∀ a ∈ src.addrs, a < s.heap.objs.size) ∧ ∃ (o : Obj) (Hs : Heap → Prop), Begins u o Hs ∧ Hs s.heap ∧ ∀ h' it, h'.get? it = some o → src.iter it 0 h' := by
    intro a vs iv eu ev hq hs
    obtain ⟨its, rv, p, hz⟩ := I.tuple hq
    have p' : s.heap.IsTuple a its.toArray := p
    refine ⟨.tp a, ⟨ev, eu⟩, hs, fun b hb => ?_, _, _, by rw [eu]; exact begins_tuple a its.toArray, p', fun h' it e => ⟨_, e, rfl, rfl⟩⟩
    have : b = a := by simpa [Src.addrs] using hb
    rw [this]
    obtain ⟨o, e, _⟩ := p'
    exact Heap.lt_size e
  unfold ivsO at h
  split at h
  · cases h
    have r' := r
    cases r with
    | lst h1 h2 hs t => exact mk ru rfl (.of hs) (src_lst fun ρ2 M2 H2 x R2 => by
        cases r'.extR R x with
        | lst _ _ hs t => exact ⟨_, .of hs, t⟩)
  · cases h
    have r' := r
    cases r with
    | fl hs t => exact mk ru rfl hs.sq (src_lst fun ρ2 M2 H2 x R2 => by
        cases r'.extR R x with
        | fl hs t => exact ⟨_, hs.sq, t⟩)
  · cases h
    have r' := r
    cases r with
    | tup hs t => exact mkt ru rfl hs.sq (src_tup fun ρ2 M2 H2 x R2 => by
        cases r'.extR R x with
        | tup hs t => exact ⟨_, hs.sq, t⟩)
  · rename_i z
    cases h
    cases r with
    | str =>
      obtain ⟨t, rfl⟩ := ru
      refine ⟨.tx ⟨z.toArray⟩ t, ⟨rfl, rfl⟩, ?_, (fun a ha => nomatch ha), _, _, begins_text _ t, trivial, fun h' it e => ⟨_, e, rfl, rfl⟩⟩
      intro ρ2 M2 H2 x R2 i
      refine ⟨fun d e => ?_, fun e => ?_⟩
      · obtain ⟨_, e⟩ := ivs_st e
        rw [List.getElem?_map] at e
        cases q : z[i]? with
        | none => rw [q] at e; cases e
        | some c =>
          rw [q] at e
          cases e
          refine ⟨by show i < z.toArray.size; simpa using (List.getElem?_eq_some_iff.mp q).1, fun w ⟨c', e2, e3⟩ => ?_⟩
          have e2 : z.toArray[i]? = some c' := e2
          rw [List.getElem?_toArray, q] at e2
          cases e2
          subst e3
          exact .str [c]
      · obtain ⟨hl, e⟩ := ivs_st e
        have := List.getElem?_eq_none_iff.mp e
        show z.toArray.size = i
        simp at this hl ⊢
        omega
  · rename_i n
    split at h
    · rename_i xs hx
      cases h
      cases r with
      | ref hr =>
        obtain ⟨vs, h1, t⟩ := R.obj _ _ _ hr hx
        refine mk ru rfl (.of h1) fun ρ2 M2 H2 x R2 i => ?_
        have lv : ∀ {o : Option D}, ivsAt (.lv n) i M2 = some o → ∃ ys, M2[n]? = some (.lst ys) ∧ i ≤ ys.length ∧ ys[i]? = o := by
          intro o e
          unfold ivsAt at e
          dsimp only at e
          split at e
          · rename_i ys hy
            split at e
            · exact ⟨ys, hy, by assumption, Option.some.inj e⟩
            · cases e
          · cases e
        refine ⟨fun d e => ?_, fun e => ?_⟩
        · obtain ⟨ys, hy, _, e⟩ := lv e
          obtain ⟨ws, h2, t2⟩ := R2.obj _ _ _ (x.get hr) hy
          obtain ⟨w, ew, rw'⟩ := t2.get e
          refine ⟨⟨ws, w, .of h2, ew⟩, fun y hy => ?_⟩
          have := hy ws (.of h2)
          rw [ew] at this; cases this; exact rw'
        · obtain ⟨ys, hy, hl, e⟩ := lv e
          obtain ⟨ws, h2, t2⟩ := R2.obj _ _ _ (x.get hr) hy
          have := List.getElem?_eq_none_iff.mp e
          exact ⟨ws, .of h2, by rw [← t2.length]; omega⟩
    · cases h
  · cases h
/-- pairs, as a list where both are known -/
def pairs (a b : IVS) : IV := match a, b with
  | .cnt, .st xs => .st (xs.mapIdx fun i d => .tup [.int i, d])
  | .st xs, .st ys => .st (List.zipWith (fun x y => .tup [x, y]) xs ys)
  | a, b => .pv a b
theorem pairs_at {a b : IVS} {i : Nat} {M : Mem} {o : Option D} (h : ivAt (pairs a b) i M = some o) : ivAt (.pv a b) i M = some o := by
  unfold pairs at h
  split at h
  · rename_i xs
    unfold ivAt at h ⊢
    dsimp only at h ⊢
    unfold ivsAt
    dsimp only
    split at h
    · rename_i hi
      rw [List.length_mapIdx] at hi
      rw [if_pos hi]
      rw [List.getElem?_mapIdx] at h
      cases q : xs[i]? with
      | none => rw [q] at h; exact h
      | some d => rw [q] at h; exact h
    · cases h
  · rename_i xs ys
    unfold ivAt at h ⊢
    dsimp only at h ⊢
    unfold ivsAt
    dsimp only
    split at h
    · rename_i hi
      rw [List.length_zipWith] at hi
      rw [if_pos (by omega), if_pos (by omega)]
      rw [List.getElem?_zipWith] at h
      cases q : xs[i]? with
      | none =>
        rw [q] at h
        cases ys[i]? <;> exact h
      | some d =>
        rw [q] at h
        cases q2 : ys[i]? with
        | none => rw [q2] at h; exact h
        | some e => rw [q2] at h; exact h
    · cases h
  · exact h
theorem itOk_pairs {K : PySem.W.Frag} {J : It} {a b : IVS} {ρ : Nu} {H : Hp} (h : ItOk K J (.pv a b) ρ H) : ItOk K J (pairs a b) ρ H :=
  fun ρ2 M2 H2 x R i => ⟨fun d e => (h ρ2 M2 H2 x R i).1 d (pairs_at e), fun e => (h ρ2 M2 H2 x R i).2 (pairs_at e)⟩
theorem pairAt_some {x y : Option (Option D)} {d : D} (h : pairAt x y = some (some d)) : ∃ p q, x = some (some p) ∧ y = some (some q) ∧ d = .tup [p, q] := by
  unfold pairAt at h
  split at h
  · cases h; exact ⟨_, _, rfl, rfl, rfl⟩
  · cases h
  · cases h
theorem pairAt_none {x y : Option (Option D)} (h : pairAt x y = some none) : ∃ p q, x = some p ∧ y = some q ∧ (p = none ∨ q = none) := by
  unfold pairAt at h
  split at h
  · cases h
  · rename_i p q hn
    refine ⟨p, q, rfl, rfl, ?_⟩
    cases p with
    | none => exact .inl rfl
    | some p =>
      cases q with
      | none => exact .inr rfl
      | some q => exact (hn _ _ rfl rfl).elim
  · cases h
theorem itOk_enum {K : PySem.W.Frag} {s : IVS} {src : Src} {ρ : Nu} {H : Hp} (h : SrcOk K s src ρ H) : ItOk K (IteS K src) (.pv .cnt s) ρ H := by
  intro ρ2 M2 H2 x R i
  obtain ⟨h1, h2⟩ := h ρ2 M2 H2 x R i
  refine ⟨fun d e => ?_, fun e => ?_⟩
  · obtain ⟨p, q, e1, e2, rfl⟩ := pairAt_some e
    cases e1
    obtain ⟨hg, hat⟩ := h1 _ e2
    refine ⟨hg, fun v H' ⟨T, y, ev, hT, eH, hy⟩ => ?_⟩
    subst ev eH
    exact ⟨.laid hT, R.laid hT, .tup (.inl upd_same) (.cons (.int _) (.cons ((hat y hy).ext R (.laid hT)) .nil))⟩
  · obtain ⟨p, q, e1, e2, hn⟩ := pairAt_none e
    cases e1
    rcases hn with hn | hn
    · cases hn
    · subst hn; exact h2 e2
theorem itOk_zip {K : PySem.W.Frag} {s t : IVS} {a b : Src} {ρ : Nu} {H : Hp} (h : SrcOk K s a ρ H) (h' : SrcOk K t b ρ H) : ItOk K (ItzS K a b) (.pv s t) ρ H := by
  intro ρ2 M2 H2 x R i
  obtain ⟨h1, h2⟩ := h ρ2 M2 H2 x R i
  obtain ⟨h3, h4⟩ := h' ρ2 M2 H2 x R i
  refine ⟨fun d e => ?_, fun e => ?_⟩
  · obtain ⟨p, q, e1, e2, rfl⟩ := pairAt_some e
    obtain ⟨hg, hat⟩ := h1 _ e1
    obtain ⟨hg2, hat2⟩ := h3 _ e2
    refine ⟨⟨hg, hg2⟩, fun v H' ⟨T, y, z, ev, hT, eH, hy, hz⟩ => ?_⟩
    subst ev eH
    exact ⟨.laid hT, R.laid hT, .tup (.inl upd_same) (.cons ((hat y hy).ext R (.laid hT)) (.cons ((hat2 z hz).ext R (.laid hT)) .nil))⟩
  · obtain ⟨p, q, e1, e2, hn⟩ := pairAt_none e
    refine ⟨?_, ?_, ?_⟩
    · cases p with
      | none => exact .inr (h2 e1)
      | some p => exact .inl (h1 _ e1).1
    · cases q with
      | none => exact .inr (h4 e2)
      | some q => exact .inl (h3 _ e2).1
    · rcases hn with hn | hn
      · subst hn; exact .inl (h2 e1)
      · subst hn; exact .inr (h4 e2)
def iEnumD (fa : SFs) : SI := fun σ M => (fa σ M).bind fun ds M1 => match ds with
  | [d] => optO (ivsO d M1) fun iv => .ok (pairs .cnt iv) M1
  | _ => .bad
def iZipD (fa : SFs) : SI := fun σ M => (fa σ M).bind fun ds M1 => match ds with
  | [d, e] => optO (ivsO d M1) fun a => optO (ivsO e M1) fun b => .ok (pairs a b) M1
  | _ => .bad
section
variable {X : Cx} {E : XK} {N : List Str} {sc : Scope} {ks : List (Option NameKind)} {own : List Nat} {k : Nat}
theorem cenum (C : Ctx X E N sc ks own k) {elts : List Expr} {kk : Nat} {tpos : Pos} {e : Expr} {fa : SFs} {p pos : Pos} (hm : X.mg "enumerate" = none) (ha : JA X E [e] fa) (hg : sc.names.lookup (Str.ofString "enumerate") = some .globalImplicit := by decide +kernel) (hs : starEach [e] X.env = [(false, eval e X.env)] := by rfl) :
    JI X E (.Tuple elts kk tpos) (.Call (.Name "enumerate" p) [e] [] pos) (iEnumD fa) := by
  refine ⟨fun pins s σ H Rr I ⟨ρ, M, σd, R, en, hp⟩ => ?_⟩
  refine Call_ (ld_blt I (C.gl hg) hm boot_enumerate (PyProof.Rows.callWith_type1 (thn (ha.run pos pins s σ H (fun vs H1 => ∃ ρ1 M1 d iv v, vs = [v] ∧ Den X.K ρ1 H1 d v ∧ ivsO d M1 = some iv ∧ Rep X.K ρ1 M1 H1 ∧ ∀ J, ItOk X.K J (pairs .cnt iv) ρ1 H1 → Rr J H1) I ⟨ρ, M, σd, R, en, hp.bind.imp fun ds M1 ρ1 H1 x1 R1 hp1 vs rvs => ?_⟩) fun us s1 ⟨vs, H1, I1, r1, q1⟩ => ?_) hs rfl))
  · split at hp1
    · rename_i d
      obtain ⟨iv, e1, hp1⟩ := optO_post hp1
      obtain ⟨v, rfl, rv⟩ := dens1 rvs
      exact ⟨ρ1, M1, d, iv, v, rfl, rv, e1, R1, hp1.here R1⟩
    · exact hp1.elim
  · obtain ⟨ρ1, M1, d, iv, v, ex, rv, e1, R1, q⟩ := q1
    subst ex
    obtain ⟨u, eu, ru⟩ := vals1 r1
    subst eu
    obtain ⟨src, hv, hok, hlt, o, Hs, B, hHs, hit⟩ := src_of I1 R1 rv ru e1
    refine enum_begins1 B hHs fun h' he ho hsz hk => wpAny_pyIter_enum he ?_
    have I2 : Inv X pins σ H1 { s1 with heap := h' } := I1.kept (t' := s1.toks) hk
    refine ⟨s1.heap.objs.size + 1, [s1.heap.objs.size + 1, s1.heap.objs.size], _, _, H1, rfl, I2, turn_enumS src (s1.heap.objs.size + 1) s1.heap.objs.size (Nat.succ_ne_self _) (fun hm => Nat.lt_irrefl _ (hlt _ hm)) (fun hm => Nat.lt_irrefl _ (Nat.lt_of_succ_lt (hlt _ hm))), ⟨⟨.none, he⟩, hit _ _ ho⟩, fun b hb => ?_, q _ (itOk_pairs (itOk_enum hok))⟩
    have e' : b = s1.heap.objs.size + 1 ∨ b = s1.heap.objs.size := by simpa using hb
    have hle : s1.heap.objs.size ≤ b := by
      rcases e' with z | z
      · rw [z]; exact Nat.le_add_right _ _
      · rw [z]; exact Nat.le_refl _
    exact I1.fpOk hle (I1.hok.fresh hle)
theorem czip (C : Ctx X E N sc ks own k) {elts : List Expr} {kk : Nat} {tpos : Pos} {e e2 : Expr} {fa : SFs} {p pos : Pos} (hm : X.mg "zip" = none) (ha : JA X E [e, e2] fa) (hg : sc.names.lookup (Str.ofString "zip") = some .globalImplicit := by decide +kernel)
    (hs : starEach [e, e2] X.env = (false, eval e X.env) :: starEach [e2] X.env := by rfl) (hpl : (backTo pos (starEach [e2] X.env)).any (·.1) = false := by rfl) :
    JI X E (.Tuple elts kk tpos) (.Call (.Name "zip" p) [e, e2] [] pos) (iZipD fa) := by
  refine ⟨fun pins s σ H Rr I ⟨ρ, M, σd, R, en, hp⟩ => ?_⟩
  refine Call_ (ld_blt I (C.gl hg) hm PyProof.Rows.boot_zip (PyProof.Rows.callWith_type1 (thn (ha.run pos pins s σ H (fun vs H1 => ∃ ρ1 M1 d d' a b v w, vs = [v, w] ∧ Den X.K ρ1 H1 d v ∧ Den X.K ρ1 H1 d' w ∧ ivsO d M1 = some a ∧ ivsO d' M1 = some b ∧ Rep X.K ρ1 M1 H1 ∧ ∀ J, ItOk X.K J (pairs a b) ρ1 H1 → Rr J H1) I ⟨ρ, M, σd, R, en, hp.bind.imp fun ds M1 ρ1 H1 x1 R1 hp1 vs rvs => ?_⟩) fun us s1 ⟨vs, H1, I1, r1, q1⟩ => ?_) hs hpl))
  · split at hp1
    · rename_i d d'
      obtain ⟨a, e1, hp1⟩ := optO_post hp1
      obtain ⟨b, e2, hp1⟩ := optO_post hp1
      obtain ⟨v, w, rfl, rv, rw'⟩ := dens2 rvs
      exact ⟨ρ1, M1, d, d', a, b, v, w, rfl, rv, rw', e1, e2, R1, hp1.here R1⟩
    · exact hp1.elim
  · obtain ⟨ρ1, M1, d, d', a, b, v, w, ex, rv, rw', e1, e2, R1, q⟩ := q1
    subst ex
    cases r1 with
    | cons ru rr =>
      cases rr with
      | cons ru' rr =>
        cases rr
        obtain ⟨sa, hv, hok, hlt, o, Hs, B, hHs, hit⟩ := src_of I1 R1 rv ru e1
        obtain ⟨sb, hv', hok', hlt', o', Hs', B', hHs', hit'⟩ := src_of I1 R1 rw' ru' e2
        refine zip_begins2 B B' hHs hHs' fun h' hz hTI hTO h1 h2 hsz hk => wpAny_pyIter_zip hz ?_
        have I2 : Inv X pins σ H1 { s1 with heap := h' } := I1.kept (t' := s1.toks) hk
        refine ⟨s1.heap.objs.size + 4, [s1.heap.objs.size + 4, s1.heap.objs.size + 2, s1.heap.objs.size + 3, s1.heap.objs.size, s1.heap.objs.size + 1], _, _, H1, rfl, I2,
          turn_zipS sa sb (zip_sep2 hlt hlt') (fun hm => Nat.lt_irrefl _ (hlt _ hm)) (fun hm => Nat.lt_irrefl _ (Nat.lt_of_succ_lt (hlt' _ hm))), ⟨hz, hTI, ⟨_, _, hTO⟩, hit _ _ h1, hit' _ _ h2⟩, fun c hcm => ?_, q _ (itOk_pairs (itOk_zip hok hok'))⟩
        have e' : c = s1.heap.objs.size + 4 ∨ c = s1.heap.objs.size + 2 ∨ c = s1.heap.objs.size + 3 ∨ c = s1.heap.objs.size ∨ c = s1.heap.objs.size + 1 := by simpa using hcm
        have hle : s1.heap.objs.size ≤ c := by
          rcases e' with z | z | z | z | z
          · rw [z]; exact Nat.le_add_right _ _
          · rw [z]; exact Nat.le_add_right _ _
          · rw [z]; exact Nat.le_add_right _ _
          · rw [z]; exact Nat.le_refl _
          · rw [z]; exact Nat.le_add_right _ _
        exact I1.fpOk hle (I1.hok.fresh hle)
end
end KP

/-! several names at once -/
namespace KP
open PySem PySem.Spec PyProof.Rows L2
theorem len0 {α : Type} {us : List α} (h : us.length = 0) : us = [] := List.eq_nil_of_length_eq_zero h
theorem len1 {α : Type} {us : List α} (h : us.length = 1) : ∃ a, us = [a] := by
  match us, h with
  | [a], _ => exact ⟨a, rfl⟩
theorem len2 {α : Type} {us : List α} (h : us.length = 2) : ∃ a b, us = [a, b] := by
  match us, h with
  | [a, b], _ => exact ⟨a, b, rfl⟩
theorem len3 {α : Type} {us : List α} (h : us.length = 3) : ∃ a b c, us = [a, b, c] := by
  match us, h with
  | [a, b, c], _ => exact ⟨a, b, c, rfl⟩
theorem len4 {α : Type} {us : List α} (h : us.length = 4) : ∃ a b c d, us = [a, b, c, d] := by
  match us, h with
  | [a, b, c, d], _ => exact ⟨a, b, c, d, rfl⟩
theorem len5 {α : Type} {us : List α} (h : us.length = 5) : ∃ a b c d e, us = [a, b, c, d, e] := by
  match us, h with
  | [a, b, c, d, e], _ => exact ⟨a, b, c, d, e, rfl⟩
theorem len6 {α : Type} {us : List α} (h : us.length = 6) : ∃ a b c d e f, us = [a, b, c, d, e, f] := by
  match us, h with
  | [a, b, c, d, e, f], _ => exact ⟨a, b, c, d, e, f, rfl⟩
theorem len7 {α : Type} {us : List α} (h : us.length = 7) : ∃ a b c d e f g, us = [a, b, c, d, e, f, g] := by
  match us, h with
  | [a, b, c, d, e, f, g], _ => exact ⟨a, b, c, d, e, f, g, rfl⟩
theorem len8 {α : Type} {us : List α} (h : us.length = 8) : ∃ a b c d e f g h, us = [a, b, c, d, e, f, g, h] := by
  match us, h with
  | [a, b, c, d, e, f, g, h], _ => exact ⟨a, b, c, d, e, f, g, h, rfl⟩
def isStar : Expr → Bool
  | .Starred .. => true
  | _ => false
def swNames (sc : Scope) (ts : List Expr) : List Str := ts.filterMap fun
  | .Name id pos => if sc.names.lookup id == some .local && pos.line == (ts.head?.map (·.pos.line)).getD 0 then some id else none
  | _ => none
def swC (sc : Scope) (ts vs : List Expr) : Option (Option (List Str)) :=
  if (!(ts.length == 2 || ts.length == 3) || vs.length != ts.length) = true then some none else if vs.any isStar = true then some none else
  if ((swNames sc ts).length != ts.length || (swNames sc ts).eraseDups.length != (swNames sc ts).length) = true then some none else
  if vs.all (foldedForSure 8) = true then some none else if vs.all (constantsAlone 8) = true then none else some (some (swNames sc ts))
theorem swC_ok {env : Env} {sc : Scope} {ts vs : List Expr} {kt k2 : Nat} {pt p2 : Pos} {r : Option (List Str)} (h : env.scope = sc) (hk : sc.kind = .function) (hr : swC sc ts vs = some r) : swappedStores [.Tuple ts kt pt] (.Tuple vs k2 p2) env = pure r := by
  have hb : env.blockKind = .function := by
    unfold Env.blockKind
    rw [h, hk]; rfl
  subst h
  have key : swappedStores [.Tuple ts kt pt] (.Tuple vs k2 p2) env = (if (!(ts.length == 2 || ts.length == 3) || vs.length != ts.length || (env.blockKind != ScopeKind.function)) = true then pure none else if vs.any isStar = true then pure none else
      if ((swNames env.scope ts).length != ts.length || (swNames env.scope ts).eraseDups.length != (swNames env.scope ts).length) = true then pure none else
      if vs.all (foldedForSure 8) = true then pure none else if vs.all (constantsAlone 8) = true then (do unsupported "assign.tuple-of-constant-expressions:order-of-the-stores"; pure (some (swNames env.scope ts))) else pure (some (swNames env.scope ts))) := rfl
  rw [key, hb]
  unfold swC at hr
  split at hr
  · rename_i e
    have e' : (!(ts.length == 2 || ts.length == 3) || vs.length != ts.length || (ScopeKind.function != ScopeKind.function)) = true := by rw [e]; rfl
    cases hr
    rw [if_pos e']
  · rename_i e
    have e' : ¬ (!(ts.length == 2 || ts.length == 3) || vs.length != ts.length || (ScopeKind.function != ScopeKind.function)) = true := by
      rw [show (ScopeKind.function != ScopeKind.function) = false from rfl, Bool.or_false]; exact e
    rw [if_neg e']
    split at hr
    · rename_i e2
      cases hr
      simp only [e2, if_true]
    · rename_i e2
      simp only [e2, if_false, Bool.false_eq_true]
      split at hr
      · rename_i e3
        cases hr
        simp only [e3, if_true]
      · rename_i e3
        simp only [e3, if_false, Bool.false_eq_true]
        split at hr
        · rename_i e4
          cases hr
          simp only [e4, if_true]
        · rename_i e4
          simp only [e4, if_false, Bool.false_eq_true]
          split at hr
          · cases hr
          · rename_i e5
            cases hr
            simp only [e5, if_false, Bool.false_eq_true]
def sPar3 (i j l : Nat) (fa : SFs) : SS := fun σ M => (fa σ M).bind fun ds M1 => match ds with
  | [d, e, f] => .ok (.nx (((σ.set i (some d)).set j (some e)).set l (some f))) M1
  | _ => .bad
theorem dens3 {K : PySem.W.Frag} {ρ : Nu} {H : Hp} {d e f : D} {vs : List V} (h : Dens K ρ H [d, e, f] vs) : ∃ v w u, vs = [v, w, u] ∧ Den K ρ H d v ∧ Den K ρ H e w ∧ Den K ρ H f u := by
  cases h with
  | cons a b =>
    cases b with
    | cons c d =>
      cases d with
      | cons e f => cases f; exact ⟨_, _, _, rfl, a, c, e⟩
section
variable {X : Cx} {E : XK} {N : List Str} {sc : Scope} {ks : List (Option NameKind)} {own : List Nat} {k : Nat}
theorem cpar2 (C : Ctx X E N sc ks own k) (i j : Nat) {x y : Str} {a b : Expr} {fa : SFs} {px py pt pos : Pos} {kt k2 pt2} (ha : JA X E [a, b] fa) (hi : N[i]? = some x := by rfl) (hj : N[j]? = some y := by rfl) (hij : i ≠ j := by decide)
    (ki : ks[i]? = some (some .local) := by rfl) (kj : ks[j]? = some (some .local) := by rfl)
    (hw : swC sc [.Name x px, .Name y py] [a, b] = some (some [x, y]) := by decide +kernel)
    (hs : swapsWithSole [.Tuple [.Name x px, .Name y py] kt pt] (.Tuple [a, b] k2 pt2) pos.line X.env = pure false := by rfl) :
    JS X E (.Assign [.Tuple [.Name x px, .Name y py] kt pt] (.Tuple [a, b] k2 pt2) pos) (sPar i j fa) :=
  cpar C i j ha hi hj hij ki kj (swC_ok C.hsc C.kind0 hw) hs
theorem cpar3 (C : Ctx X E N sc ks own k) (i j l : Nat) {x y z : Str} {a b c : Expr} {fa : SFs} {px py pz pt pos : Pos} {kt k2 pt2} (ha : JA X E [a, b, c] fa) (hi : N[i]? = some x := by rfl) (hj : N[j]? = some y := by rfl) (hl : N[l]? = some z := by rfl)
    (hij : i ≠ j := by decide) (hil : i ≠ l := by decide) (hjl : j ≠ l := by decide)
    (ki : ks[i]? = some (some .local) := by rfl) (kj : ks[j]? = some (some .local) := by rfl) (kl : ks[l]? = some (some .local) := by rfl)
    (hw : swC sc [.Name x px, .Name y py, .Name z pz] [a, b, c] = some (some [x, y, z]) := by decide +kernel)
    (hs : swapsWithSole [.Tuple [.Name x px, .Name y py, .Name z pz] kt pt] (.Tuple [a, b, c] k2 pt2) pos.line X.env = pure false := by rfl) :
    JS X E (.Assign [.Tuple [.Name x px, .Name y py, .Name z pz] kt pt] (.Tuple [a, b, c] k2 pt2) pos) (sPar3 i j l fa) := by
  have e1 : sc.names.lookup x = some .local := by have := C.kind hi; rw [ki] at this; exact (Option.some.inj this).symm
  have e2 : sc.names.lookup y = some .local := by have := C.kind hj; rw [kj] at this; exact (Option.some.inj this).symm
  have e3 : sc.names.lookup z = some .local := by have := C.kind hl; rw [kl] at this; exact (Option.some.inj this).symm
  refine PS.weak (ps_par3 C.calm (by rw [C.hN]; exact C.nd) (by rw [C.hN]; exact hi) (by rw [C.hN]; exact hj) (by rw [C.hN]; exact hl) hij hil hjl (by rw [C.hsc]; exact e1) (by rw [C.hsc]; exact e2) (by rw [C.hsc]; exact e3) ha (swC_ok C.hsc C.kind0 hw) hs) fun D σ H ⟨ρ, M, σd, R, en, hp⟩ => ⟨ρ, M, σd, R, en, hp.bind.imp fun ds M1 ρ1 H1 x1 R1 hp1 vs rv => ?_⟩
  split at hp1
  · obtain ⟨v, w, u, rfl, r1, r2, r3⟩ := dens3 rv
    exact ⟨v, w, u, rfl, hp1.here R1 _ ((((en.ext R x1).set i r1).set j r2).set l r3)⟩
  · exact hp1.elim
/-- an assignment of a tuple display to a target tuple, in order -/
theorem casg (C : Ctx X E N sc ks own k) {vs : List Nat} {ts es : List Expr} {kt k2 : Nat} {pt p2 pos : Pos} {f : SF} {g : SG} (he : JE X E (.Tuple es k2 p2) f) (hg : JG X E vs (.Tuple ts kt pt) g)
    (hw : swC sc ts es = some none := by decide +kernel) (hs : swapsWithSole [.Tuple ts kt pt] (.Tuple es k2 p2) pos.line X.env = pure false := by rfl) : JS X E (.Assign [.Tuple ts kt pt] (.Tuple es k2 p2) pos) (sAsg f g) :=
  js_asg he hg hs (swC_ok C.hsc C.kind0 hw)
end
end KP

/-! the end of a law -/
namespace KP
open PySem PySem.Spec PyProof.Rows L2
section
variable {P : Program} {w : World} {K : PySem.W.Frag} {mg : Str → Option Value} {h : Heap}
theorem def_mk {x : Str} {st : Stmt} {f : Addr} {oc : Value} {od an : Option Addr} {osl : Array (Option Value)} {kV doc pm cdv ct : Value} (X : K.In h) (G : h.Ns mainGlobals mg)
    (a : PySem.W.nsIn K mainGlobals x = some (some (.ref f))) (l : K.lookup f = some ⟨oc, od, .func (PySem.W.fnOf x x (defArgs st) (defBody st) (defScope st) .none kV doc pm an cdv ct), osl⟩)
    (c : PySem.W.codeIn K cdv x = true) (k : PySem.W.keepIn K (.ref f) = true) : Def K mg x st :=
  ⟨f, _, fun_mk l c k, PySem.W.mg_of X G a⟩
theorem defA_mk {y x : Str} {st : Stmt} {f : Addr} {oc : Value} {od an : Option Addr} {osl : Array (Option Value)} {kV doc pm cdv ct : Value} (X : K.In h) (G : h.Ns mainGlobals mg)
    (a : PySem.W.nsIn K mainGlobals y = some (some (.ref f))) (l : K.lookup f = some ⟨oc, od, .func (PySem.W.fnOf x x (defArgs st) (defBody st) (defScope st) .none kV doc pm an cdv ct), osl⟩)
    (c : PySem.W.codeIn K cdv x = true) (k : PySem.W.keepIn K (.ref f) = true) : DefA K mg y x st :=
  ⟨f, _, fun_mk l c k, PySem.W.mg_of X G a⟩
theorem int_mk {x : Str} {i : Int} {t : Tok} (X : K.In h) (G : h.Ns mainGlobals mg) (a : PySem.W.nsIn K mainGlobals x = some (some (.int i t))) : ∃ t, mg x = some (.int i t) := ⟨t, PySem.W.mg_of X G a⟩
theorem str_mk {x : Str} {z : Str} {t : Tok} (X : K.In h) (G : h.Ns mainGlobals mg) (a : PySem.W.nsIn K mainGlobals x = some (some (.str z t))) : ∃ t, mg x = some (.str z t) := ⟨t, PySem.W.mg_of X G a⟩
theorem dens_strs {K : PySem.W.Frag} {ρ : Nu} {H : Hp} : ∀ zs : List (List Nat), Dens K ρ H (zs.map .str) (zs.map fun z => V.str ⟨z.toArray⟩)
  | [] => .nil
  | z :: zs => .cons (.str z) (dens_strs zs)
theorem strsB_map : ∀ zs : List (List Nat), strsB (zs.map .str) = true
  | [] => rfl
  | _ :: zs => strsB_map zs
theorem strtup_mk {x : Str} {a : Addr} {zs : List (List Nat)} {its : Array Value} {n : Nat} {osl : Array (Option Value)} (X : K.In h) (G : h.Ns mainGlobals mg) (a0 : PySem.W.nsIn K mainGlobals x = some (some (.ref a)))
    (a1 : K.lookup a = some ⟨.type "tuple", none, .seq its n, osl⟩) (hv : Vals (zs.map fun z => V.str ⟨z.toArray⟩) its.toList) (hs : its.size ≤ sizeLine) : StrTup K mg x zs :=
  ⟨a, PySem.W.mg_of X G a0, fun ρ H => .tup (.inr ⟨.inr ⟨_, its, n, a1, rfl, rfl, hs, hv⟩, strsB_map zs⟩) (dens_strs zs), _, a1, rfl, rfl⟩
theorem cx_false {o : List Env} {H : Hp} {s : Shared} {e : Value} {s' : Shared} (h : L2.CX P w o H s (fun _ _ _ => False) e s') : False := by
  obtain ⟨_, _, _, _, _, _, _, _, _, _, _, _, h⟩ := h
  exact h
theorem law_sp {g : List D → Mem → Out D} (good : ∀ ns : List Int, ns.length ≤ 63 → ∃ M, g [.fl (ns.map D.int)] [] = .ok (.bl true) M) (H : Hp) (a : Addr) (ns : List Int) (hl : ns.length ≤ 63) (hO : Only H) (hS : SqL K H a (ns.map V.int)) :
    ∀ (Q : VK) (E : XK), (∀ H2, Q (.bl true) H2) → spD K mg 1 g [.ref a] H Q E := by
  intro Q E hQ
  obtain ⟨M, hg⟩ := good ns hl
  refine ⟨⟨[], []⟩, [], [.fl (ns.map D.int)], ⟨rfl, List.nodup_nil, fun i a o e => by simp at e, fun z hz => by cases hz⟩, .cons (.fl (vs := ns.map V.int) ?_ ?_) .nil, rfl, ?_⟩
  · rcases hS with hS | hS
    · rcases hO a with e | ⟨o, xs, e⟩
      · rcases hS with hS | ⟨o, hS⟩
        · rw [e] at hS; cases hS
        · rw [e] at hS; cases hS
      · rcases hS with hS | ⟨o', hS⟩
        · rw [e] at hS; cases hS
        · exact .inl ⟨o', hS⟩
    · exact .inr hS
  · refine Dens.of_get (by simp) fun i d v e1 e2 => ?_
    rw [List.getElem?_map] at e1 e2
    cases q : ns[i]? with
    | none => rw [q] at e1; cases e1
    | some z => rw [q] at e1 e2; cases e1; cases e2; exact .int z
  · rw [hg]
    intro ρ' H' x R v r
    cases r
    exact hQ H'
/-- the law's promise: at a script it answers True -/
def spL (K : PySem.W.Frag) : Sp := fun vs H Q _ => ∃ (a : Addr) (ns : List Int), vs = [.ref a] ∧ ns.length ≤ 63 ∧ Only H ∧ SqL K H a (ns.map V.int) ∧ ∀ H2, Q (.bl true) H2
theorem law_end {x : Str} {st : Stmt} {g : List D → Mem → Out D} {k : Nat} {fa : Addr} {p : Str} (hfa : mg x = some (.ref fa)) (F : ∀ base, Has P w K mg base k x st [p] g) (good : ∀ ns : List Int, ns.length ≤ 63 → ∃ M, g [.fl (ns.map D.int)] [] = .ok (.bl true) M) (hb : ∀ (q : Str) (kV doc pm : Value) (an : Option Addr) (cdv ct : Value) (u : Value), bindArgs (PySem.W.fnOf q q (defArgs st) (defBody st) (defScope st) .none kV doc pm an cdv ct) ⟨[u], []⟩ = pure [(p, u)]) :
    ∃ fd : FuncData, (∀ (s : Shared) (v : Value), BindsTo s fd ⟨[v], []⟩ [(p, v)]) ∧ ∀ base : Heap, K.In base → base.Ns mainGlobals mg → FnG P w K mg base (L2.CX P w) k fa fd [p] (spL K) := by
  obtain ⟨f, fd, F0⟩ := F default
  have e := hfa.symm.trans F0.mg
  cases e
  refine ⟨fd, fun s v => ?_, fun base _ _ => ?_⟩
  · obtain ⟨qn, kV, doc, pm, an, cdv, ct, e⟩ := F0.src
    subst e
    exact .of_eq (hb qn kV doc pm an cdv ct v)
  · obtain ⟨f', fd', F1⟩ := F base
    have e := F1.mg.symm.trans F0.mg
    cases e
    obtain ⟨oc, od, osl, l0⟩ := F0.lk
    obtain ⟨oc', od', osl', l1⟩ := F1.lk
    rw [l0] at l1
    cases l1
    refine F1.ok.imp fun vs H Q E h => ?_
    obtain ⟨a, ns, rfl, hl, hO, hS, hQ⟩ := h
    exact law_sp good H a ns hl hO hS Q E hQ
end
end KP

/-! repr -/
namespace KP
open PySem PySem.Spec PyProof.Rows L2
/-- the text of plain data -/
def reprO (x : D) (M : Mem) : Option D := match pdN M 60 x with
  | some p => if (p.showable && !p.hasDict && decide (p.shown.cps.toList.length ≤ 16777216) && decide (p.depth ≤ 60)) = true then some (.str p.shown.cps.toList) else none
  | none => none
def cRepr : List D → Mem → Option D := fun ds M => match ds with
  | [x] => reprO x M
  | _ => none
section
variable {X : Cx} {E : XK}
theorem oc_repr (hg : X.A.guards = some []) (hu : X.A.units + 100 < cLine) : CallR X (.builtin "repr") (rC X.K X.mg E (pureC cRepr)) := by
  intro pins s σ H xs us Q I r h
  obtain ⟨ρ, M, ds, R, rd, hp⟩ := h
  obtain ⟨d, e, hp⟩ := optO_post hp
  unfold cRepr at e
  split at e
  · rename_i x
    obtain ⟨v, rfl, r1⟩ := dens1 rd
    unfold reprO at e
    split at e
    · rename_i p ep
      split at e
      · rename_i hc
        cases e
        simp only [Bool.and_eq_true, decide_eq_true_eq, Bool.not_eq_true'] at hc
        obtain ⟨⟨⟨h1, h2⟩, h3⟩, h4⟩ := hc
        have dp := pdN_dp R 60 x v p r1 ep
        obtain ⟨u, rfl, ru⟩ := vals1 r
        obtain ⟨as, rds⟩ := Dp.reads I p v u dp ru
        have hz : p.shown.length ≤ sizeLine := by
          have : p.shown.length = p.shown.cps.toList.length := by show p.shown.cps.size = _; simp
          rw [this]; exact line_of h3
        have hq : ∀ (t : Tok) (h' : Heap) (tk : Tok), (∀ b o, s.heap.get? b = some o → h'.get? b = some o) → EP X pins σ Q (.str p.shown t) { s with heap := h', toks := tk } := by
          intro t h' tk hk
          refine ⟨.str p.shown, H, I.kept hk, ⟨t, rfl⟩, hp.here R _ ?_⟩
          have : Den X.K ρ H (.str p.shown.cps.toList) (.str ⟨p.shown.cps.toList.toArray⟩) := .str _
          simpa using this
        have hid : ∀ b o, s.heap.get? b = some o → s.heap.get? b = some o := fun _ _ e => e
        cases rds with
        | none => exact PySem.P.repr_of_none (hq _ _ _ hid)
        | bool b => exact PySem.P.repr_of_bool (by have := hq s.toks s.heap (s.toks + 1) hid; unfold PyData.shown at this; exact this)
        | int i t => exact PySem.P.repr_of_int (by simpa [PyData.showable] using h1) (by have := hq s.toks s.heap (s.toks + 1) hid; unfold PyData.shown at this; exact this)
        | str z t => exact PySem.P.repr_of_str (by have := hq s.toks s.heap (s.toks + 1) hid; unfold PyData.shown at this; exact this) (by unfold PyData.shown at hz; exact hz)
        | list a1 a2 a3 a4 => exact repr_of_reads' (.list a1 a2 a3 a4) h1 (PyData.noDict_hsm h2) hg (by omega) hid (fun h' t tk hk => hq t h' tk hk) hz
        | tuple a1 a2 a3 a4 => exact repr_of_reads' (.tuple a1 a2 a3 a4) h1 (PyData.noDict_hsm h2) hg (by omega) hid (fun h' t tk hk => hq t h' tk hk) hz
        | dict _ _ _ _ _ => simp [PyData.hasDict] at h2
      · cases e
    · cases e
  · cases e
end
end KP

/-! sum of a tuple -/
namespace KP
open PySem PySem.Spec PyProof.Rows L2
section
variable {X : Cx} {E : XK}
theorem cr_sumT (hc : X.calm = true) : CallR X (.builtin "sum") (fun vs H Q => ∃ (a : Addr) (ns : List Int), vs = [V.ref a] ∧ SqT X.K H a (ns.map V.int) ∧ Q (.int ns.sum) H) := by
  intro pins s σ H vs us Q I r h
  obtain ⟨a, ns, rfl, hs, q⟩ := h
  obtain ⟨its, rv, hl, _⟩ := I.tuple hs
  rw [Vals.ref1 r]
  have hi := rv.ints
  obtain ⟨xs, e⟩ := hi.allInts.items
  have hn : numsOf (intItems xs).toList = ns := by rw [← e]; exact hi.numsOf
  rw [nums_intItems] at hn
  rw [e] at hl
  have hl' : s.heap.IsTuple a (intItems xs) := by obtain ⟨o, h1, h2, n, h3⟩ := hl; exact ⟨o, h1, h2, n, h3⟩
  have hlt : a < s.heap.objs.size := by obtain ⟨_, e, _⟩ := hl'; exact Heap.lt_size e
  have keep : ∀ b o, s.heap.get? b = some o → (s.heap.push { cls := .type "tuple_iterator", data := .fields #[.ref a, .int 0 0] }).get? b = some o := fun b o e => Heap.get?_push_of_some _ e
  refine call_sum_walkG (wpAny_pyIter_tuple hl' ?_)
  refine ⟨_, _, _, _, _, _, numAt xs, rfl, Walks.tuple (A := X.A.in1) (I.ok.hd hc) _ a (Nat.ne_of_lt hlt) (intItems xs), ⟨⟨_, Heap.get?_push_size _ rfl, rfl, rfl⟩, hl'.push _⟩, fun b hb => ?_, (fun _ _ => intItems_at), fun h' tk t' hk => ?_⟩
  · show b < (s.heap.push _).objs.size
    rw [Heap.size_push]
    rcases List.mem_cons.mp hb with rfl | hb
    · exact Nat.lt_succ_self _
    · rcases List.mem_cons.mp hb with rfl | hb
      · exact Nat.lt_succ_of_lt hlt
      · cases hb
  · have e3 : preSum (numAt xs) (intItems xs).size = ns.sum := by
      rw [preSum_eq, List.take_of_length_le (by simp [intItems]), hn]
    rw [e3]
    refine ⟨.int _, H, I.kept fun b o eo => hk b o (fun hm => ?_) (keep b o eo), ⟨_, rfl⟩, q⟩
    rw [List.mem_singleton.mp hm] at eo
    exact absurd (Heap.lt_size eo) (Nat.lt_irrefl _)
def cSumT : List D → Mem → Option D := fun ds M => match ds with
  | [.tup xs] => match intsO xs with
    | some is => some (.int is.sum)
    | none => none
  | ds => cSum ds M
theorem oc_sumT (hc : X.calm = true) : CallR X (.builtin "sum") (rC X.K X.mg E (pureC cSumT)) := by
  intro pins s σ H xs us Q I r h
  obtain ⟨ρ, M, ds, R, rd, hp⟩ := id h
  obtain ⟨d, e, hp⟩ := optO_post hp
  unfold cSumT at e
  split at e
  · obtain ⟨v, rfl, r1⟩ := dens1 rd
    split at e
    · rename_i is hi
      cases e
      cases r1 with
      | tup hs t =>
        have hs := hs.sq
        rw [intsO_map t hi] at hs
        exact cr_sumT hc pins s σ H _ us Q I r ⟨_, is, rfl, hs, hp.here R _ (.int _)⟩
    · cases e
  · refine oc_sum (E := E) hc pins s σ H xs us Q I r ⟨ρ, M, _, R, rd, ?_⟩
    unfold pureC
    rw [e]; exact hp
end
end KP

/-! == of texts of any signs -/
namespace KP
open PySem PySem.Spec PyProof.Rows L2
def dEqS : D → D → Mem → Out D := fun x y M => match x, y with
  | .str a, .str b => .ok (.bl (decide (a = b))) M
  | x, y => dEq x y M
def dNeS : D → D → Mem → Out D := fun x y M => match x, y with
  | .str a, .str b => .ok (.bl (!decide (a = b))) M
  | x, y => dNe x y M
section
variable {X : Cx} {E : XK}
theorem str_inj {a b : List Nat} : V.str (⟨a.toArray⟩ : Str) = V.str ⟨b.toArray⟩ ↔ a = b := by
  constructor
  · intro h
    injection h with h
    injection h with h
    have := congrArg Array.toList h
    simpa using this
  · intro h; rw [h]
theorem od_eqS (hu : X.A.units + 64 < cLine) : OpR X (compareOp .Eq) (rD X.K X.mg E dEqS) := by
  intro pins s σ H x y v u Q I rx ry h
  obtain ⟨ρ, M, dx, dy, R, r1, r2, hp⟩ := id h
  unfold dEqS at hp
  split at hp
  · cases r1; cases r2
    refine op_eq pins s σ H _ _ v u Q I rx ry ⟨rfl, ?_⟩
    rw [decide_eq_decide.mpr str_inj]
    exact hp.here R _ (.bl _)
  · exact od_eq (E := E) hu pins s σ H x y v u Q I rx ry ⟨ρ, M, _, _, R, r1, r2, hp⟩
theorem od_neS (hu : X.A.units + 64 < cLine) : OpR X (compareOp .NotEq) (rD X.K X.mg E dNeS) := by
  intro pins s σ H x y v u Q I rx ry h
  obtain ⟨ρ, M, dx, dy, R, r1, r2, hp⟩ := id h
  unfold dNeS at hp
  split at hp
  · cases r1; cases r2
    refine op_ne pins s σ H _ _ v u Q I rx ry ⟨rfl, ?_⟩
    rw [decide_eq_decide.mpr str_inj]
    exact hp.here R _ (.bl _)
  · exact od_ne (E := E) hu pins s σ H x y v u Q I rx ry ⟨ρ, M, _, _, R, r1, r2, hp⟩
end
end KP

/-! dicts whose keys are ints and texts -/
namespace KP
open PySem PySem.Spec PyProof.Rows L2
section
variable {κ : Type} [DecidableEq κ]
def getK (kvs : List (κ × D)) (k : κ) : Option D := (kvs.find? fun kv => decide (kv.1 = k)).map (·.2)
def putD (kvs : List (κ × D)) (k : κ) (v : D) : List (κ × D) := if (kvs.any fun kv => decide (kv.1 = k)) = true then kvs.map (fun kv => if kv.1 = k then (kv.1, v) else kv) else kvs ++ [(k, v)]
variable {K : PySem.W.Frag} {ρ : Nu} {H : Hp}
/-- the entries are the same -/
def Ents (K : PySem.W.Frag) (ρ : Nu) (H : Hp) (kvs : List (κ × D)) (es : List (κ × V)) : Prop := kvs.map (·.1) = es.map (·.1) ∧ Dens K ρ H (kvs.map (·.2)) (es.map (·.2))
theorem Ents.nil : Ents K ρ H ([] : List (κ × D)) [] := ⟨rfl, .nil⟩
theorem Ents.cons {k : κ} {d : D} {v : V} {kvs : List (κ × D)} {es : List (κ × V)} (r : Den K ρ H d v) (h : Ents K ρ H kvs es) : Ents K ρ H ((k, d) :: kvs) ((k, v) :: es) := ⟨by simp [h.1], .cons r h.2⟩
theorem Ents.inv {p : κ × D} {kvs : List (κ × D)} {es : List (κ × V)} (h : Ents K ρ H (p :: kvs) es) : ∃ v es', es = (p.1, v) :: es' ∧ Den K ρ H p.2 v ∧ Ents K ρ H kvs es' := by
  obtain ⟨h1, h2⟩ := h
  cases es with
  | nil => cases h1
  | cons e es =>
    simp only [List.map_cons] at h1 h2
    injection h1 with h1 h3
    cases h2 with
    | cons r t => exact ⟨e.2, es, by rw [h1], r, h3, t⟩
theorem Ents.length {kvs : List (κ × D)} {es : List (κ × V)} (h : Ents K ρ H kvs es) : kvs.length = es.length := by have := congrArg List.length h.1; simpa using this
theorem Ents.get : ∀ {kvs : List (κ × D)} {es : List (κ × V)} {k : κ}, Ents K ρ H kvs es → (∀ d, getK kvs k = some d → ∃ v, valV es k = some v ∧ Den K ρ H d v) ∧ (getK kvs k = none → valV es k = none)
  | [], es, k, h => by
    have : es = [] := by cases es with
      | nil => rfl
      | cons _ _ => have := h.1; cases this
    subst this
    exact ⟨(fun _ h => nomatch h), fun _ => rfl⟩
  | p :: kvs, es, k, h => by
    obtain ⟨v, es', rfl, r, t⟩ := h.inv
    by_cases e : p.1 = k
    · refine ⟨fun d hd => ⟨v, valV_pos e, ?_⟩, fun hn => ?_⟩
      · have : getK (p :: kvs) k = some p.2 := by simp [getK, List.find?_cons, e]
        rw [this] at hd; cases hd; exact r
      · have : getK (p :: kvs) k = some p.2 := by simp [getK, List.find?_cons, e]
        rw [this] at hn; cases hn
    · have e1 : getK (p :: kvs) k = getK kvs k := by simp [getK, List.find?_cons, e]
      rw [e1, valV_neg (p := (p.1, v)) e]
      exact Ents.get t
theorem Ents.any {kvs : List (κ × D)} {es : List (κ × V)} {k : κ} (h : Ents K ρ H kvs es) : (kvs.any fun kv => decide (kv.1 = k)) = es.any fun kv => decide (kv.1 = k) := by
  have e1 : (kvs.any fun kv => decide (kv.1 = k)) = (kvs.map (·.1)).any fun x => decide (x = k) := by rw [List.any_map]; rfl
  have e2 : (es.any fun kv => decide (kv.1 = k)) = (es.map (·.1)).any fun x => decide (x = k) := by rw [List.any_map]; rfl
  rw [e1, e2, h.1]
theorem Ents.app {kvs : List (κ × D)} {es : List (κ × V)} {k : κ} {d : D} {v : V} (h : Ents K ρ H kvs es) (r : Den K ρ H d v) : Ents K ρ H (kvs ++ [(k, d)]) (es ++ [(k, v)]) := by
  refine ⟨by simp [h.1], ?_⟩
  rw [List.map_append, List.map_append]
  exact h.2.append (.cons r .nil)
theorem Ents.put1 {k : κ} {d : D} {v : V} (r : Den K ρ H d v) : ∀ {kvs : List (κ × D)} {es : List (κ × V)}, Ents K ρ H kvs es → Ents K ρ H (kvs.map fun kv => if kv.1 = k then (kv.1, d) else kv) (es.map fun kv => if kv.1 = k then (kv.1, v) else kv)
  | [], es, h => by
    have : es = [] := by cases es with
      | nil => rfl
      | cons _ _ => have := h.1; cases this
    subst this; exact .nil
  | p :: kvs, es, h => by
    obtain ⟨w, es', rfl, rw', t⟩ := h.inv
    have ih := Ents.put1 (k := k) r t
    rw [List.map_cons, List.map_cons]
    by_cases e : p.1 = k
    · simp only [e, if_true]; exact .cons r ih
    · simp only [e, if_false]
      exact Ents.cons (k := p.1) rw' ih
theorem Ents.put {kvs : List (κ × D)} {es : List (κ × V)} {k : κ} {d : D} {v : V} (h : Ents K ρ H kvs es) (r : Den K ρ H d v) : Ents K ρ H (putD kvs k d) (putK es k v) := by
  unfold putD putK
  rw [h.any]
  split
  · exact h.put1 r
  · exact h.app r
theorem Ents.ext {ρ' : Nu} {H' : Hp} {M : Mem} {kvs : List (κ × D)} {es : List (κ × V)} (h : Ents K ρ H kvs es) (R : Rep K ρ M H) (x : Ext ρ H ρ' H') : Ents K ρ' H' kvs es := ⟨h.1, h.2.ext R x⟩
end
def keyO : D → Option Key
  | .int i => some (.inl i)
  | .str z => some (.inr ⟨z.toArray⟩)
  | _ => none
theorem keyO_ok {K : PySem.W.Frag} {ρ : Nu} {H : Hp} {d : D} {v : V} {k : Key} (r : Den K ρ H d v) (h : keyO d = some k) : v = kV k := by
  cases r <;> cases h <;> rfl
/-- the entries of a dict -/
def dctO (d : D) (M : Mem) : Option (Nat × List (Key × D)) := match d with
  | .ref n => match M[n]? with
    | some (.dct kvs) => some (n, kvs)
    | _ => none
  | _ => none
theorem dctO_some {K : PySem.W.Frag} {ρ : Nu} {M : Mem} {H : Hp} {d : D} {v : V} {n : Nat} {kvs : List (Key × D)} (R : Rep K ρ M H) (r : Den K ρ H d v) (h : dctO d M = some (n, kvs)) : ∃ a es, v = .ref a ∧ ρ.num[n]? = some a ∧ H a = some (.dK es) ∧ Ents K ρ H kvs es ∧ M[n]? = some (.dct kvs) := by
  unfold dctO at h
  split at h
  · split at h
    · rename_i kvs' e
      cases h
      cases r with
      | ref hr =>
        obtain ⟨es, h1, h2, h3⟩ := R.obj _ _ _ hr e
        exact ⟨_, es, rfl, hr, h1, ⟨h2, h3⟩, e⟩
    · cases h
  · cases h
section
variable {X : Cx} {E : XK}
/-- {} -/
def fDctN : SF := fun _ M => .ok (.ref M.length) (M ++ [.dct []])
theorem je_dct {pos : Pos} : JE X E (.Dict [] [] pos) fDctN := by
  refine PE.weak pe_dnewK fun σ H Q ⟨ρ, M, σd, R, en, hp⟩ p np => ?_
  have R' : Rep X.K (ρ.push p) (M ++ [.dct []]) (upd H p (.dK [])) := R.new np ⟨[], upd_same, rfl, .nil⟩
  refine hp _ _ (Ext.new np) R' _ (.ref ?_)
  show (ρ.num ++ [p])[M.length]? = some p
  rw [← R.len]; simp
/-- d[k] of dicts, or as for lists -/
def ixD (x i : D) (M : Mem) : Option D := match dctO x M with
  | some (_, kvs) => match keyO i with
    | some k => getK kvs k
    | none => none
  | none => ixO x i M
theorem ox_ixD (hu : X.A.units + 1 < cLine) : IxR X (rD X.K X.mg E (pure2 ixD)) := by
  intro value slice pins s σ H x y v u Q I rx ry h hsub
  obtain ⟨ρ, M, dx, dy, R, r1, r2, hp⟩ := id h
  obtain ⟨d, e, hp2⟩ := pure2_post hp
  unfold ixD at e
  split at e
  · rename_i n kvs hd
    split at e
    · rename_i k hk
      obtain ⟨a, es, rfl, hr, h1, t, -⟩ := dctO_some R r1 hd
      obtain ⟨w, hw, rw'⟩ := (t.get.1 _ e)
      have ey := keyO_ok r2 hk
      subst ey
      cases rx
      have g : DGet H a (kV k) (some w) := by rw [← hw]; exact DGet.k h1
      exact tail_any (dict_typeIs I g) PySem.F.slot_dict_getitem.lookup (d_getItem hu I g ry fun w' s3 I3 rw3 => ⟨w, H, I3, rw3, hp2.here R _ rw'⟩) hsub
    · cases e
  · refine ox_ix (E := E) value slice pins s σ H x y v u Q I rx ry ⟨ρ, M, dx, dy, R, r1, r2, ?_⟩ hsub
    show Post _ _ _ _ _ (optO (ixO dx dy M) fun d => .ok d M) _
    rw [e]; exact hp2
theorem je_ixD {a b : Expr} {fa fb : SF} {pos : Pos} (hu : X.A.units + 1 < cLine) (ha : JE X E a fa) (hb : JE X E b fb) (hs : PlainIx b := by intro _ _; rfl) : JE X E (.Subscript a b pos) (fBin (pure2 ixD) fa fb) :=
  PE.weak (pe_ix (ox_ixD hu) ha hb hs) fun σ H Q h => tOp_of h
/-- k in d of dicts, or as for sequences -/
def inD (x c : D) (M : Mem) : Option Bool := match dctO c M with
  | some (_, kvs) => match keyO x with
    | some k => some (getK kvs k).isSome
    | none => none
  | none => inO x c M
def dInD := pure2 fun x y M => bO (inD x y M)
def dNotInD := pure2 fun x y M => nbO (inD x y M)
theorem some_of_in {x c : D} {M : Mem} {b : Bool} (h : inD x c M = some b) : (∃ n kvs k, dctO c M = some (n, kvs) ∧ keyO x = some k ∧ b = (getK kvs k).isSome) ∨ inO x c M = some b := by
  unfold inD at h
  split at h
  · rename_i n kvs hd
    split at h
    · rename_i k hk; cases h; exact .inl ⟨n, kvs, k, hd, hk, rfl⟩
    · cases h
  · exact .inr h
theorem Ents.isSome {κ : Type} [DecidableEq κ] {K : PySem.W.Frag} {ρ : Nu} {H : Hp} {kvs : List (κ × D)} {es : List (κ × V)} {k : κ} (h : Ents K ρ H kvs es) : (valV es k).isSome = (getK kvs k).isSome := by
  cases q : getK kvs k with
  | none => rw [h.get.2 q]; rfl
  | some d => obtain ⟨v, e, _⟩ := h.get.1 d q; rw [e]; rfl
theorem od_inD (hu : X.A.units + 65 < cLine) : OpR X (compareOp .In) (rD X.K X.mg E dInD) := by
  intro pins s σ H x y v u Q I rx ry h
  obtain ⟨ρ, M, dx, dy, R, r1, r2, hp⟩ := id h
  obtain ⟨d, e0, hp2⟩ := pure2_post hp
  obtain ⟨b, e, hd⟩ := bO_some e0
  rcases some_of_in e with ⟨n, kvs, k, h1, h2, rfl⟩ | h1
  · obtain ⟨a, es, rfl, hr, h3, t, -⟩ := dctO_some R r2 h1
    have ey := keyO_ok r1 h2
    subst ey hd
    cases ry
    refine d_in (by omega) I (DGet.k h3) rx fun s3 I3 => ⟨.bl _, H, I3, rfl, ?_⟩
    rw [t.isSome]
    exact hp2.here R _ (.bl _)
  · refine od_in (E := E) hu pins s σ H x y v u Q I rx ry ⟨ρ, M, dx, dy, R, r1, r2, ?_⟩
    show Post _ _ _ _ _ (optO (bO (inO dx dy M)) fun d => .ok d M) _
    have e1 : bO (inO dx dy M) = some d := by rw [h1, ← e]; exact e0
    rw [e1]; exact hp2
theorem od_notInD (hu : X.A.units + 65 < cLine) : OpR X (compareOp .NotIn) (rD X.K X.mg E dNotInD) := by
  intro pins s σ H x y v u Q I rx ry h
  obtain ⟨ρ, M, dx, dy, R, r1, r2, hp⟩ := id h
  obtain ⟨d, e0, hp2⟩ := pure2_post hp
  obtain ⟨b, e, hd⟩ := nbO_some e0
  rcases some_of_in e with ⟨n, kvs, k, h1, h2, rfl⟩ | h1
  · obtain ⟨a, es, rfl, hr, h3, t, -⟩ := dctO_some R r2 h1
    have ey := keyO_ok r1 h2
    subst ey hd
    cases ry
    refine d_notIn (by omega) I (DGet.k h3) rx fun s3 I3 => ⟨.bl _, H, I3, rfl, ?_⟩
    rw [t.isSome]
    exact hp2.here R _ (.bl _)
  · refine od_notIn (E := E) hu pins s σ H x y v u Q I rx ry ⟨ρ, M, dx, dy, R, r1, r2, ?_⟩
    show Post _ _ _ _ _ (optO (nbO (inO dx dy M)) fun d => .ok d M) _
    have e1 : nbO (inO dx dy M) = some d := by rw [h1, ← e]; exact e0
    rw [e1]; exact hp2
/-- d[k] = v -/
def setD (o i v : D) (M : Mem) : Option Mem := match dctO o M with
  | some (n, kvs) => match keyO i with
    | some k => if kvs.length < 16777216 then some (M.set n (.dct (putD kvs k v))) else none
    | none => none
  | none => setO o i v M
theorem os_setD (hu : X.A.units + 1 < cLine) : PSet X (fun o i v H Q => ∃ ρ M d1 d2 d3, Rep X.K ρ M H ∧ Den X.K ρ H d1 o ∧ Den X.K ρ H d2 i ∧ Den X.K ρ H d3 v ∧ ∃ M', setD d1 d2 d3 M = some M' ∧ ∀ ρ' H', Ext ρ H ρ' H' → Rep X.K ρ' M' H' → Q H') := by
  intro pins s σ H o i v ov iv u Q I ro ri rv h
  obtain ⟨ρ, M, d1, d2, d3, R, r1, r2, r3, M', e, q⟩ := id h
  unfold setD at e
  split at e
  · rename_i n kvs hd
    split at e
    · rename_i k hk
      split at e
      · rename_i hl
        cases e
        obtain ⟨a, es, rfl, hr, h3, t, hM⟩ := dctO_some R r1 hd
        have ey := keyO_ok r2 hk
        subst ey
        have hl' : es.length < sizeLine := by rw [← t.length]; exact hl
        refine set_dict hu pins s σ H _ _ v ov iv u Q I ro ri rv ⟨a, _, rfl, DPut.k h3 hl', ?_⟩
        have x : Ext ρ H ρ (upd H a (.dK (putK es k v))) := .write (List.mem_of_getElem? hr) (nfz h3)
        have t2 := (t.ext R x).put (k := k) (r3.ext R x)
        exact q ρ _ x (R.write hr (nfz h3) ⟨_, upd_same, t2.1, t2.2⟩)
      · cases e
    · cases e
  · exact os_set pins s σ H o i v ov iv u Q I ro ri rv ⟨ρ, M, d1, d2, d3, R, r1, r2, r3, M', e, q⟩
/-- len(d) -/
def cLenD : List D → Mem → Option D := fun ds M => match ds with
  | [x] => match dctO x M with
    | some (_, kvs) => some (.int kvs.length)
    | none => cLen [x] M
  | _ => none
theorem oc_lenD : CallR X (.builtin "len") (rC X.K X.mg E (pureC cLenD)) := by
  intro pins s σ H xs us Q I r h
  obtain ⟨ρ, M, ds, R, rd, hp⟩ := id h
  obtain ⟨d, e, hp2⟩ := optO_post hp
  unfold cLenD at e
  split at e
  · split at e
    · rename_i n kvs hd
      cases e
      obtain ⟨v, rfl, r1⟩ := dens1 rd
      obtain ⟨a, es, rfl, hr, h3, t, hM⟩ := dctO_some R r1 hd
      refine call_lenD pins s σ H _ us Q I r ⟨a, es, rfl, h3, ?_⟩
      rw [← t.length]
      exact hp2.here R _ (.int _)
    · refine oc_len (E := E) pins s σ H xs us Q I r ⟨ρ, M, _, R, rd, ?_⟩
      unfold pureC; rw [e]; exact hp2
  · cases e
/-- d.setdefault(k, x) -/
def mSetd : D → List D → Mem → Out D := fun o ds M => match dctO o M, ds with
  | some (n, kvs), [i, x] => match keyO i with
    | some k => if kvs.length < 16777216 then (match getK kvs k with
      | some d => .ok d M
      | none => .ok x (M.set n (.dct (putD kvs k x)))) else .bad
    | none => .bad
  | _, _ => .bad
theorem om_setd : MtR X "dict.setdefault" (rM X.K X.mg E mSetd) := by
  intro pins s σ H x xs v us Q I rx rxs h
  obtain ⟨ρ, M, d, ds, R, r, rs, hp⟩ := h
  unfold mSetd at hp
  split at hp
  · rename_i n kvs i y hd
    obtain ⟨w1, w2, rfl, q1, q2⟩ := dens2 rs
    split at hp
    · rename_i k hk
      split at hp
      · rename_i hl
        obtain ⟨a, es, rfl, hr, h3, t, hM⟩ := dctO_some R r hd
        have ey := keyO_ok q1 hk
        subst ey
        obtain ⟨u1, u2, rfl, ru1, ru2⟩ := vals2 rxs
        cases rx
        have hl' : es.length < sizeLine := by rw [← t.length]; exact hl
        refine d_setd I h3 ru1 ru2 hl' (fun w hw w' s3 I3 rw' => ?_) fun hn w' s3 I3 rw' => ?_
        · cases qg : getK kvs k with
          | none => rw [t.get.2 qg] at hw; cases hw
          | some d1 =>
            rw [qg] at hp
            obtain ⟨w2, hw2, rd2⟩ := t.get.1 d1 qg
            rw [hw] at hw2
            cases hw2
            exact ⟨w, H, I3, rw', hp.here R _ rd2⟩
        · cases qg : getK kvs k with
          | some d1 =>
            obtain ⟨w2, hw2, _⟩ := t.get.1 d1 qg
            rw [hn] at hw2; cases hw2
          | none =>
            rw [qg] at hp
            have x : Ext ρ H ρ (upd H a (.dK (putK es k w2))) := .write (List.mem_of_getElem? hr) (nfz h3)
            have t2 := (t.ext R x).put (k := k) (q2.ext R x)
            exact ⟨w2, _, I3, rw', hp _ _ x (R.write hr (nfz h3) ⟨_, upd_same, t2.1, t2.2⟩) _ (q2.ext R x)⟩
      · exact hp.elim
    · exact hp.elim
  · exact hp.elim
/-- d.get(k), d.get(k, x) -/
def mGet : D → List D → Mem → Out D := fun o ds M => match dctO o M, ds with
  | some (_, kvs), [i] => match keyO i with
    | some k => .ok ((getK kvs k).getD .non) M
    | none => .bad
  | some (_, kvs), [i, x] => match keyO i with
    | some k => .ok ((getK kvs k).getD x) M
    | none => .bad
  | _, _ => .bad
theorem Ents.getD {κ : Type} [DecidableEq κ] {K : PySem.W.Frag} {ρ : Nu} {H : Hp} {kvs : List (κ × D)} {es : List (κ × V)} {k : κ} {d : D} {v : V} (h : Ents K ρ H kvs es) (r : Den K ρ H d v) : Den K ρ H ((getK kvs k).getD d) ((valV es k).getD v) := by
  cases q : getK kvs k with
  | none => rw [h.get.2 q]; exact r
  | some d => obtain ⟨v, e, r'⟩ := h.get.1 d q; rw [e]; exact r'
theorem om_get (hu : X.A.units + 1 < cLine) : MtR X "dict.get" (rM X.K X.mg E mGet) := by
  intro pins s σ H x xs v us Q I rx rxs h
  obtain ⟨ρ, M, d, ds, R, r, rs, hp⟩ := h
  unfold mGet at hp
  split at hp
  · rename_i n kvs i hd
    obtain ⟨w1, rfl, q1⟩ := dens1 rs
    split at hp
    · rename_i k hk
      obtain ⟨a, es, rfl, hr, h3, t, hM⟩ := dctO_some R r hd
      have ey := keyO_ok q1 hk
      subst ey
      obtain ⟨u1, rfl, ru1⟩ := vals1 rxs
      cases rx
      exact d_get1 hu I (DGet.k h3) ru1 fun w' s3 I3 rw' => ⟨_, H, I3, rw', hp.here R _ (t.getD .non)⟩
    · exact hp.elim
  · rename_i n kvs i y hd
    obtain ⟨w1, w2, rfl, q1, q2⟩ := dens2 rs
    split at hp
    · rename_i k hk
      obtain ⟨a, es, rfl, hr, h3, t, hM⟩ := dctO_some R r hd
      have ey := keyO_ok q1 hk
      subst ey
      obtain ⟨u1, u2, rfl, ru1, ru2⟩ := vals2 rxs
      cases rx
      exact d_get2 hu I (DGet.k h3) ru1 ru2 fun w' s3 I3 rw' => ⟨_, H, I3, rw', hp.here R _ (t.getD q2)⟩
    · exact hp.elim
  · exact hp.elim
end
end KP

/-! sorted(d) of dicts with ints as keys -/
namespace KP
open PySem PySem.Spec PyProof.Rows L2
def intKs {α : Type} : List (Key × α) → Option (List Int)
  | [] => some []
  | (.inl i, _) :: r => match intKs r with
    | some is => some (i :: is)
    | none => none
  | _ :: _ => none
theorem intKs_ok {α : Type} : ∀ {kvs : List (Key × α)} {is : List Int}, intKs kvs = some is → kvs.map (·.1) = is.map Sum.inl
  | [], is, h => by cases h; rfl
  | (.inl i, x) :: r, is, h => by
    unfold intKs at h
    split at h
    · rename_i js e
      cases h
      rw [List.map_cons, intKs_ok e]; rfl
    · cases h
  | (.inr i, x) :: r, is, h => by cases h
def ile (a b : Int) : Bool := decide (a ≤ b)
theorem ile_total : PySem.W.TotalLe ile where
  trans a b c h h' := by unfold ile at *; simp at *; omega
  total a b := by unfold ile; simp; omega
theorem sorted_unique {l m : List Int} (p : m.Perm l) (h : m.Pairwise (· ≤ ·)) : m = isort ile l := by
  refine List.Perm.eq_of_pairwise (le := (· ≤ ·)) (fun a b _ _ h h' => Int.le_antisymm h h') h ?_ (p.trans (isort_perm l).symm)
  refine (isort_sorted ile_total l).imp ?_
  intro a b h
  exact of_decide_eq_true h
def cSortedD : List D → Mem → Out D := fun ds M => match ds with
  | [x] => match dctO x M with
    | some (_, kvs) => match intKs kvs with
      | some is => if is.length < 64 then .ok (.lst ((isort ile is).map .int)) M else .bad
      | none => .bad
    | none => cSorted [x] M
  | _ => .bad
section
variable {X : Cx} {E : XK}
theorem dens_ints {K : PySem.W.Frag} {ρ : Nu} {H : Hp} : ∀ is : List Int, Dens K ρ H (is.map .int) (is.map .int)
  | [] => .nil
  | i :: is => .cons (.int i) (dens_ints is)
theorem oc_sortedD (hc : X.calm = true) (hu : X.A.units + 100 < cLine) : CallR X (.builtin "sorted") (rC X.K X.mg E cSortedD) := by
  intro pins s σ H xs us Q I r h
  obtain ⟨ρ, M, ds, R, rd, hp⟩ := id h
  unfold cSortedD at hp
  split at hp
  · split at hp
    · rename_i n kvs hd
      split at hp
      · rename_i is hk
        split at hp
        · rename_i h64
          obtain ⟨v, rfl, r1⟩ := dens1 rd
          obtain ⟨a, es, rfl, hr, h3, t, hM⟩ := dctO_some R r1 hd
          refine call_sortedDI hc pins s σ H _ us Q I r ⟨a, es, is, rfl, .of h3, by rw [← t.1]; exact intKs_ok hk, h64, fun ys p hp1 hp2 np => ?_⟩
          rw [sorted_unique hp1 hp2]
          exact Post.lstTmp R (dens_ints _) hp p np
        · exact hp.elim
      · exact hp.elim
    · exact oc_sorted (E := E) hu pins s σ H xs us Q I r ⟨ρ, M, _, R, rd, hp⟩
  · exact hp.elim
/-- d[k] = v, xs[i] = v -/
def gSubD (fo fi : SF) : SG := fun d σ M => (fo σ M).bind fun o M1 => (fi σ M1).bind fun i M2 => match setD o i d M2 with
  | some M3 => .ok σ M3
  | none => .bad
theorem jg_subD {o i : Expr} {fo fi : SF} {pos : Pos} (hu : X.A.units + 1 < cLine) (ho : JE X E o fo) (hi : JE X E i fi) (ha : ∀ v, assign (.Subscript o i pos) X.env v = (do
      let ov ← holding [v] (eval o X.env)
      let iv ← holding [v, ov] (eval i X.env)
      standAt pos
      holding [v, ov, iv] (setItem ov iv v)
      release [v, ov, iv] []) := by intro _; rfl) : JG X E [] (.Subscript o i pos) (gSubD fo fi) := by
  refine PG.weak (pg_sub ho hi (os_setD hu) ha) fun v σ H Q ⟨ρ, M, σd, d, R, en, rd, hp⟩ => ?_
  refine ⟨ρ, M, σd, R, en, hp.bind.imp fun o' M1 ρ1 H1 x1 R1 hp1 ov ro => ?_⟩
  refine ⟨ρ1, M1, σd, R1, en.ext R x1, hp1.bind.imp fun i' M2 ρ2 H2 x2 R2 hp2 iv ri => ?_⟩
  refine ⟨ρ2, M2, o', i', d, R2, ro.ext R1 x2, ri, (rd.ext R x1).ext R1 x2, ?_⟩
  split at hp2
  · rename_i M3 e
    exact ⟨M3, e, fun ρ' H' x R' => hp2 ρ' H' x R' σ (((en.ext R x1).ext R1 x2).ext R2 x) .refl⟩
  · exact hp2.elim
end
end KP

/-! the place of a text in a tuple of the module -/
namespace KP
open PySem PySem.Spec PyProof.Rows L2
def idxS (z : List Nat) : List (List Nat) → Nat → Option Nat
  | [], _ => none
  | y :: ys, i => if y = z then some i else idxS z ys (i + 1)
theorem idxS_some {z : List Nat} : ∀ {ys : List (List Nat)} {i j : Nat}, idxS z ys i = some j → ∃ m, j = i + m ∧ ys[m]? = some z ∧ ∀ n, n < m → ys[n]? ≠ some z
  | [], _, _, h => by cases h
  | y :: ys, i, j, h => by
    unfold idxS at h
    split at h
    · rename_i e
      cases h; subst e
      exact ⟨0, rfl, rfl, fun n hn => by omega⟩
    · rename_i e
      obtain ⟨m, h1, h2, h3⟩ := idxS_some h
      refine ⟨m + 1, by omega, h2, fun n hn => ?_⟩
      cases n with
      | zero => intro q; injection q with q; exact e q
      | succ n => exact h3 n (by omega)
def fKidx (zs : List (List Nat)) (f : SF) : SF := fun σ M => (f σ M).bind fun x M1 => match x with
  | .str z => optO (idxS z zs 0) fun j => .ok (.int (j : Nat)) M1
  | _ => .bad
section
variable {X : Cx} {E : XK} {N : List Str} {sc : Scope} {ks : List (Option NameKind)} {own : List Nat} {k : Nat}
theorem str_inj' {a b : List Nat} (h : (⟨a.toArray⟩ : Str) = ⟨b.toArray⟩) : a = b := by
  injection h with h
  have := congrArg Array.toList h
  simpa using this
theorem ckidx (C : Ctx X E N sc ks own k) {x : Str} {zs : List (List Nat)} {e : Expr} {f : SF} {p apos cpos : Pos} (h : StrTup X.K X.mg x zs) (he : JE X E e f) (hg : sc.names.lookup x = some .globalImplicit := by decide +kernel) (hx : (x == ("__debug__" : Str)) = false := by decide +kernel)
    (hbase : attributeBase (.Name x p) "index" X.env (eval (.Name x p) X.env) = eval (.Name x p) X.env := by rfl) (hline : (apos.endLine == cpos.line) = true := by rfl)
    (hfew : ((backTo cpos (starEach [e] X.env)).all (fun x => !x.1) && (backToKw cpos (keywordEach [] X.env)).all (fun x => x.1.isSome) && decide ([e].length + ([] : List Keyword).length + (if ([] : List Keyword).isEmpty then 0 else 1) < 30)) = true := by rfl)
    (hse : starEach [e] X.env = (false, eval e X.env) :: starEach [] X.env := by rfl) (hplain : (backTo cpos (starEach [] X.env)).any (·.1) = false := by rfl) :
    JE X E (.Call (.Attribute (.Name x p) "index" apos) [e] [] cpos) (fKidx zs f) := by
  obtain ⟨a, h1, h2, o, h3, h4, h5⟩ := h
  have po : PE X (.Name x p) (tC (.ref a)) := pe_glob (C.gl hg) h1 rfl hx
  refine PE.weak (pe_bm PySem.F.plainAttrs_tuple PySem.F.slot_tuple_index PySem.F.type_tuple_index mt_tup_index po (pa_cons he pa_nil hse) hbase hfew hline hse hplain) ?_
  intro σ H Q ⟨ρ, M, σd, R, en, hp⟩
  refine ⟨.inr (.inl ⟨rfl, o, h3, h4, h5⟩), ρ, M, σd, R, en, hp.bind.imp fun d M1 ρ1 H1 x1 R1 hp1 v rv => ?_⟩
  split at hp1
  · rename_i z
    cases rv
    obtain ⟨j, ej, hp2⟩ := optO_post hp1
    obtain ⟨m, e1, e2, e3⟩ := idxS_some ej
    have hd := h2 ρ1 H1
    have e0 : j = m := by omega
    subst e0
    cases hd with
    | tup hs t =>
      have hv : ∀ {zs : List (List Nat)} {vs : List V}, Dens X.K ρ1 H1 (zs.map .str) vs → vs = (zs.map fun z => (⟨z.toArray⟩ : Str)).map V.str := by
        intro zs
        induction zs with
        | nil => intro vs h; cases h; rfl
        | cons z zs ih =>
          intro vs h
          cases h with
          | cons r t => cases r; rw [ih t]; rfl
      rw [hv t] at hs
      refine ⟨a, zs.map fun z => (⟨z.toArray⟩ : Str), ⟨z.toArray⟩, j, rfl, rfl, hs, ?_, fun n hn q => ?_, hp2.here R1 _ (.int _)⟩
      · rw [List.getElem?_map, e2]; rfl
      · rw [List.getElem?_map] at q
        cases qn : zs[n]? with
        | none => rw [qn] at q; cases q
        | some y =>
          rw [qn] at q
          injection q with q
          exact e3 n hn (by rw [qn, str_inj' q])
  · exact hp1.elim
end
end KP

/-! a text several times, texts joined -/
namespace KP
open PySem PySem.Spec PyProof.Rows L2
def repS (n : Nat) (z : List Nat) : List Nat := (List.replicate n z).flatten
theorem fold_rep (a : Array Nat) : ∀ (n : Nat) (b : Array Nat), (List.replicate n a).foldl (· ++ ·) b = (b.toList ++ repS n a.toList).toArray
  | 0, b => by simp [repS]
  | n + 1, b => by
    rw [List.replicate_succ, List.foldl_cons, fold_rep a n]
    simp [repS, List.replicate_succ]
def dMulS : D → D → Mem → Out D := fun x y M => match x, y with
  | .str z, .int n => if n < 1 then (if -1000000 ≤ n then .ok (.str []) M else .bad) else if z.length * n.toNat ≤ 16777216 ∧ n ≤ 16777216 then .ok (.str (repS n.toNat z)) M else .bad
  | _, _ => dMulT x y M
section
variable {X : Cx} {E : XK}
theorem ediv_le {a n b : Int} (hn : 0 < n) (h : a * n ≤ b) : a ≤ b / n := (Int.le_ediv_iff_mul_le hn).2 h
theorem od_mulS : OpR X (binaryOp .Mult) (rD X.K X.mg E dMulS) := by
  intro pins s σ H x y v u Q I rx ry h
  obtain ⟨ρ, M, dx, dy, R, r1, r2, hp⟩ := h
  unfold dMulS at hp
  split at hp
  · rename_i z n
    cases r1
    cases r2
    obtain ⟨t, rfl⟩ := rx
    obtain ⟨t2, rfl⟩ := ry
    have hlen : (⟨z.toArray⟩ : Str).length = z.length := by show z.toArray.size = _; simp
    split at hp
    · rename_i hn
      split at hp
      · rename_i hlo
        refine PySem.P.mul_str_none hn (by have : (2 : Int) ^ 63 = 9223372036854775808 := by decide
                                           omega) ?_
        exact ⟨.str Str.empty, H, I.tok _, ⟨_, rfl⟩, hp.here R _ (.str [])⟩
      · exact hp.elim
    · rename_i hn
      split at hp
      · rename_i hz
        obtain ⟨hz, hz2⟩ := hz
        have e63 : (2 : Int) ^ 63 = 9223372036854775808 := by decide
        have hn1 : 1 ≤ n := by omega
        have e9 := hp.here R _ (.str (repS n.toNat z))
        refine PySem.P.mul_str ?_ ?_ ?_ ?_
        · have h1 : ¬ n < -(2 ^ 63 : Int) := by omega
          have h2 : ¬ n ≥ 2 ^ 63 := by omega
          rw [decide_eq_false h1, decide_eq_false h2]; rfl
        · intro _ _ hc
          rw [hlen] at hc
          have h2 : (z.length : Int) * n ≤ 16777216 := by
            have : ((z.length * n.toNat : Nat) : Int) ≤ 16777216 := by generalize z.length * n.toNat = q at hz; omega
            rw [Int.natCast_mul, Int.toNat_of_nonneg (by omega)] at this
            exact this
          have h3 : (z.length : Int) ≤ (2 ^ 63 - 1) / n := ediv_le (by omega) (by omega)
          omega
        · intro _ _
          rw [hlen]
          exact PyProof.Rows.short24 hz
        · rw [if_neg hn]
          split
          · rename_i hc
            have e1 : repS n.toNat z = z := by
              simp only [Bool.or_eq_true, beq_iff_eq] at hc
              rcases hc with hc | hc
              · subst hc; show [z].flatten = z; exact List.append_nil z
              · rw [hlen] at hc
                have : z = [] := List.length_eq_zero_iff.1 hc
                subst this
                unfold repS
                rw [List.flatten_eq_nil_iff]
                intro l hl
                exact (List.mem_replicate.1 hl).2
            rw [e1] at e9
            exact ⟨.str ⟨z.toArray⟩, H, I, ⟨t, rfl⟩, e9⟩
          · have e1 : (⟨(List.replicate n.toNat z.toArray).foldl (· ++ ·) #[]⟩ : Str) = ⟨(repS n.toNat z).toArray⟩ := by
              rw [fold_rep]; simp
            show Made.post (.str ⟨(List.replicate n.toNat z.toArray).foldl (· ++ ·) #[]⟩) _ _
            rw [e1]
            refine ⟨?_, .str ⟨(repS n.toNat z).toArray⟩, H, I.tok _, ⟨_, rfl⟩, e9⟩
            have e2 : (repS n.toNat z).length = n.toNat * z.length := by unfold repS; rw [List.length_flatten, List.map_replicate, List.sum_replicate_nat]
            show (repS n.toNat z).toArray.size ≤ sizeLine
            rw [List.size_toArray, e2, Nat.mul_comm]
            unfold sizeLine
            have e : (2 : Nat) ^ 24 = 16777216 := by decide
            omega
      · exact hp.elim
  · exact od_mulT pins s σ H x y v u Q I rx ry ⟨ρ, M, _, _, R, r1, r2, hp⟩
end
/-! ### joined -/
def strsO : List D → Option (List (List Nat))
  | [] => some []
  | .str z :: r => (strsO r).map (z :: ·)
  | _ :: _ => none
theorem strsO_some : ∀ {ds : List D} {zs : List (List Nat)}, strsO ds = some zs → ds = zs.map .str
  | [], zs, h => by cases h; rfl
  | .str z :: r, zs, h => by
    unfold strsO at h
    cases e : strsO r with
    | none => rw [e] at h; cases h
    | some w => rw [e] at h; cases h; rw [strsO_some e]; rfl
theorem strsO_str : ∀ zs : List (List Nat), strsO (zs.map .str) = some zs
  | [] => rfl
  | z :: zs => by show (strsO (zs.map .str)).map (z :: ·) = _; rw [strsO_str zs]; rfl
theorem dens_strs_eq {K : PySem.W.Frag} {ρ : Nu} {H : Hp} : ∀ {zs : List (List Nat)} {vs : List V}, Dens K ρ H (zs.map .str) vs → vs = (zs.map fun z => (⟨z.toArray⟩ : Str)).map V.str
  | [], vs, h => by cases h; rfl
  | z :: zs, vs, h => by
    cases h with
    | cons r t => cases r; rw [dens_strs_eq t]; rfl
def joinO (a : List Nat) (ds : List D) (M : Mem) : Out D := optO (strsO ds) fun zs =>
  if (zs.map (·.length)).sum + zs.length * a.length ≤ 16777216 then .ok (.str (TL.joinL a zs)) M else .bad
def mJoin : D → List D → Mem → Out D := fun o ds M => match o, ds with
  | .str a, [.lst xs] => joinO a xs M
  | .str a, [.tup xs] => joinO a xs M
  | .str a, [.ref n] => match M[n]? with
    | some (.lst xs) => joinO a xs M
    | _ => .bad
  | _, _ => .bad
section
variable {X : Cx} {E : XK}
theorem join_ok {pins : List (Addr × Obj)} {s : Shared} {σ : L2.St} {H : Hp} {ρ : Nu} {M : Mem} {a : List Nat} {ds : List D} {p : Addr} {vs : List V} {v : Value} {us : List Value} {Q : VK} (I : Inv X pins σ H s) (R : Rep X.K ρ M H)
    (rx : RelV (.str ⟨a.toArray⟩) v) (rs : Vals [.ref p] us)
    (t : Dens X.K ρ H ds vs) (hs : SqL X.K H p vs ∨ SqT X.K H p vs)
    (hp : Post X.K X.mg E ρ H (joinO a ds M) fun d _ ρ' H' => ∀ v, Den X.K ρ' H' d v → Q v H') :
    wpAny (model X.prog X.w) X.A (call (.builtin "str.join") (v :: us)) (EP X pins σ Q) X.xe s := by
  unfold joinO at hp
  obtain ⟨zs, ez, hp2⟩ := optO_post hp
  have e0 := strsO_some ez
  subst e0
  rw [dens_strs_eq t] at hs
  split at hp2
  · rename_i hz
    have e1 : ((zs.map fun z => (⟨z.toArray⟩ : Str)).map (·.length)).sum + (zs.map fun z => (⟨z.toArray⟩ : Str)).length * (⟨a.toArray⟩ : Str).length ≤ 16777216 := by
      have e2 : (zs.map fun z => (⟨z.toArray⟩ : Str)).map (·.length) = zs.map (·.length) := by
        rw [List.map_map]
        refine List.map_congr_left fun z _ => ?_
        show z.toArray.size = _
        simp
      have e3 : (⟨a.toArray⟩ : Str).length = a.length := by show a.toArray.size = _; simp
      rw [e2, e3, List.length_map]
      exact hz
    refine mt_join pins s σ H _ _ v us Q I rx rs ⟨_, p, zs.map fun z => (⟨z.toArray⟩ : Str), rfl, rfl, hs, e1, ?_⟩
    have e4 : Txt.join (⟨a.toArray⟩ : Str) (zs.map fun z => (⟨z.toArray⟩ : Str)) = ⟨(TL.joinL a zs).toArray⟩ := SX.join_S a zs
    rw [e4]
    exact hp2.here R _ (.str _)
  · exact hp2.elim
theorem om_join : MtR X "str.join" (rM X.K X.mg E mJoin) := by
  intro pins s σ H x xs v us Q I rx rs h
  obtain ⟨ρ, M, d, ds, R, r1, r2, hp⟩ := h
  unfold mJoin at hp
  split at hp
  · rename_i a ds
    cases r1
    cases r2 with
    | cons q1 q2 =>
      cases q2
      cases q1 with
      | lst h1 h2 hs t => exact join_ok I R rx rs t (.inl (.of hs)) hp
  · rename_i a ds
    cases r1
    cases r2 with
    | cons q1 q2 =>
      cases q2
      cases q1 with
      | tup hs t => exact join_ok I R rx rs t (.inr hs.sq) hp
  · rename_i a n
    cases r1
    cases r2 with
    | cons q1 q2 =>
      cases q2
      cases q1 with
      | ref hr =>
        split at hp
        · rename_i xs e
          obtain ⟨vs, h1, t⟩ := R.obj _ _ _ hr e
          exact join_ok I R rx rs t (.inl (.of h1)) hp
        · exact hp.elim
  · exact hp.elim
end
end KP

/-! sorted(a tuple of integers) -/
namespace KP
open PySem PySem.Spec PyProof.Rows L2
section
variable {X : Cx}
theorem call_sortedTI : CallR X (.builtin "sorted") (fun xs H Q => ∃ (a : Addr) (ks : List Int), xs = [.ref a] ∧ SqT X.K H a (ks.map V.int) ∧ ks.length < 64 ∧
    ∀ (ys : List Int) (p : Addr), ys.Perm ks → ys.Pairwise (· ≤ ·) → H p = none → Q (.ref p) (upd H p (.lst (ys.map V.int)))) := by
  intro pins s σ H xs us Q I r q
  obtain ⟨a, ks, ex, hd, h64, q⟩ := q
  subst ex
  obtain ⟨u, eu, rx⟩ := vals1 r
  subst eu
  cases rx
  obtain ⟨its, rv, ⟨o, ho, hc, n, hdat⟩, hz⟩ := I.tuple hd
  have hal : its.length = ks.length := by have := rv.length; rw [List.length_map] at this; exact this.symm
  have hS : IntsAre its ks := rv.ints
  refine Calls.call_function_entry PyProof.Rows.kind_sorted PyProof.Rows.plain_sorted PyProof.Rows.entry_sorted (PyProof.Rows.args_sorted1 _) ?_
  unfold Builtin.«sorted»
  refine wpAny_bind (m := checkCount "sorted" 1 1 _) (wpAny_pure ?_)
  refine wpAny_bind (wpAny_collect_seq a (.inr rfl) ho hc hdat (fun h' hk => ?_) (by rw [List.size_toArray, hal, sizeLine_eq]; omega))
  have e : its.toArray.toList = its := by simp
  rw [e]
  have I1 : Inv X pins σ H { s with heap := h' } := I.kept (t' := s.toks) hk
  refine wpAny_bind (wpAny_newList ?_ (by rw [hal, sizeLine_eq]; omega))
  have hoL : (h'.push (seqObj "list" its.toArray 0)).get? h'.objs.size = some (seqObj "list" its.toArray 0) := Heap.get?_push_size _ rfl
  show wpAny _ _ _ _ _ { s with heap := h'.push (seqObj "list" its.toArray 0) }
  refine wpAny_bind (wpAny_holding (wpAny_call_entry PyProof.Rows.slot_list_sort ⟨_, hoL, rfl⟩ PyProof.Rows.entry_list_sort
    (PyProof.Rows.list_sort_tree (s := { s with heap := h'.push (seqObj "list" its.toArray 0) }) hoL hS (by rw [hal]; exact h64) fun out ys g1 g2 g3 => ⟨_, rfl, ?_⟩) (PyProof.Rows.args_list_sort _)))
  obtain ⟨e', he'⟩ := PyProof.Rows.sortedHeap_at (vs := its) (out := out) hoL
  have hlen : (ys.map V.int).length ≤ sizeLine := by
    rw [List.length_map, g2.length_eq]
    exact Nat.le_trans (Nat.le_of_lt h64) (by decide)
  refine wpAny_pure ⟨_, rfl, .ref h'.objs.size, upd H h'.objs.size (.lst (ys.map V.int)), I1.laid (t' := s.toks) (fun b u e => ?_) (Nat.le_refl _)
    (show ObjOk X.prog X.w _ _ _ (.lst (ys.map V.int)) from ⟨hlen, out.toList, e', vals_of_ints g1, by rw [Array.toArray_toList]; exact he'⟩), rfl, q ys _ g2 g3 (I1.hok.fresh (Nat.le_refl _))⟩
  have hb : b < h'.objs.size := Heap.lt_size e
  rw [PyProof.Rows.sortedHeap_old (Nat.ne_of_lt hb) (by rw [size_push']; exact Nat.lt_succ_of_lt hb)]
  exact Heap.get?_push_of_some _ e
end
def cSortedT : List D → Mem → Out D := fun ds M => match ds with
  | [.tup xs] => match intsO xs with
    | some is => if is.length < 64 then .ok (.lst ((isort ile is).map .int)) M else .bad
    | none => .bad
  | ds => cSorted ds M
section
variable {X : Cx} {E : XK}
theorem oc_sortedT (hu : X.A.units + 100 < cLine) : CallR X (.builtin "sorted") (rC X.K X.mg E cSortedT) := by
  intro pins s σ H xs us Q I r h
  obtain ⟨ρ, M, ds, R, rd, hp⟩ := id h
  unfold cSortedT at hp
  split at hp
  · rename_i ys
    split at hp
    · rename_i is hk
      split at hp
      · rename_i h64
        obtain ⟨v, rfl, r1⟩ := dens1 rd
        cases r1 with
        | tup hs t =>
          have hs := hs.sq
          rw [intsO_map t hk] at hs
          refine call_sortedTI pins s σ H _ us Q I r ⟨_, is, rfl, hs, h64, fun ys p hp1 hp2 np => ?_⟩
          rw [sorted_unique hp1 hp2]
          exact Post.lstTmp R (dens_ints _) hp p np
      · exact hp.elim
    · exact hp.elim
  · exact oc_sorted (E := E) hu pins s σ H xs us Q I r ⟨ρ, M, _, R, rd, hp⟩
end
end KP

/-! tuple(range(a, b, -1)); the place of a sign in a text -/
namespace KP
open PySem PySem.Spec PyProof.Rows L2
def dnL (i : Int) (n : Nat) : List D := (List.range n).map fun k => D.int (i + (k : Nat) * (-1))
def dnV (i : Int) (n : Nat) : List V := (List.range n).map fun k => V.int (i + (k : Nat) * (-1))
theorem dens_dn {K : PySem.W.Frag} {ρ : Nu} {H : Hp} (i : Int) (n : Nat) : Dens K ρ H (dnL i n) (dnV i n) := by
  unfold dnL dnV
  generalize List.range n = l
  induction l with
  | nil => exact .nil
  | cons a l ih => exact .cons (.int _) ih
theorem vals_dn {i : Int} {n : Nat} {acc : Array Value} (h : ItemsOf (fun k v => ∃ t, v = .int (i + k * (-1)) t) acc n) : Vals (dnV i n) acc.toList := by
  have e : acc.toList.length = n := by rw [Array.length_toList]; exact h.1
  unfold dnV
  rw [← e]
  refine vals_of_get acc.toList _ fun j u hj => ?_
  obtain ⟨t, rfl⟩ := h.2 j u (by rw [← hj, Array.getElem?_toList])
  exact ⟨t, rfl⟩
def dnOk (i j k : Int) : Bool := decide (k = -1) && small62 i && small62 j && decide ((i - j).toNat ≤ 16777216)
def fTRd (fa : SFs) : SF := fun σ M => (fa σ M).bind fun ds M1 => match ds with
  | [.int i, .int j, .int k] => if dnOk i j k = true then .ok (.tup (dnL i (i - j).toNat)) M1 else .bad
  | _ => .bad
section
variable {X : Cx} {E : XK} {N : List Str} {sc : Scope} {kn : List (Option NameKind)} {own : List Nat} {k : Nat}
theorem pe_tupDn {a b c : Expr} {ta : TA} {p p2 pos pos2 : Pos} (hc : X.calm = true) (hg : Gl X "tuple") (hm : X.mg "tuple" = none) (hg2 : Gl X "range") (hm2 : X.mg "range" = none) (ha : PA X [a, b, c] ta)
    (na : starEach [.Call (.Name "range" p2) [a, b, c] [] pos2] X.env = (false, eval (.Call (.Name "range" p2) [a, b, c] [] pos2) X.env) :: starEach [] X.env := by rfl)
    (hs : starEach [a, b, c] X.env = (false, eval a X.env) :: starEach [b, c] X.env := by rfl) (hpl : (backTo pos2 (starEach [b, c] X.env)).any (·.1) = false := by rfl) :
    PE X (.Call (.Name "tuple" p) [.Call (.Name "range" p2) [a, b, c] [] pos2] [] pos) (fun σ H Q => ta σ H fun vs H1 => ∃ i j, vs = [.int i, .int j, .int (-1)] ∧ -(2 ^ 62) ≤ i ∧ i < 2 ^ 62 ∧ -(2 ^ 62) ≤ j ∧ j < 2 ^ 62 ∧ (i - j).toNat ≤ 2 ^ 24 ∧ ∀ q, H1 q = none → Q (.ref q) (upd H1 q (.tup (dnV i (i - j).toNat)))) := by
  refine ⟨fun pins s σ H Q I h => ?_⟩
  have hr : wpAny (model X.prog X.w) X.A (eval (.Call (.Name "range" p2) [a, b, c] [] pos2) X.env) (fun x s' => ∃ r i j t u v H', x = .ref r ∧ IsRange s'.heap r i j (-1) t u v ∧ Inv X pins σ H' s' ∧ -(2 ^ 62) ≤ i ∧ i < 2 ^ 62 ∧ -(2 ^ 62) ≤ j ∧ j < 2 ^ 62 ∧ (i - j).toNat ≤ 2 ^ 24 ∧ ∀ q, H' q = none → Q (.ref q) (upd H' q (.tup (dnV i (i - j).toNat)))) X.xe s := by
    refine Call_ (ld_blt I hg2 hm2 boot_range (PyProof.Rows.callWith_type1 (thn (ha.run pos2 pins s σ H _ I h) fun us s1 ⟨vs, H1, I1, r1, q1⟩ => ?_) hs hpl))
    obtain ⟨i, j, e, b1, b2, b3, b4, b5, q⟩ := q1
    subst e
    cases r1 with
    | cons r rr =>
      cases rr with
      | cons r' rr =>
        cases rr with
        | cons r'' rr =>
          cases rr
          obtain ⟨t, rfl⟩ := r
          obtain ⟨t', rfl⟩ := r'
          obtain ⟨t'', rfl⟩ := r''
          exact call_range_3 (by decide) ⟨_, i, j, _, _, _, H1, rfl, IsRange.new _ _ _ _ _ _ _, I1.kept fun b u e => Heap.get?_push_of_some _ e, b1, b2, b3, b4, b5, q⟩ (.inl (PyProof.noPylong_small (by decide)))
  refine Call_ (ld_blt I hg hm boot_tuple (PyProof.Rows.callWith_type1 (args_cons (thn hr fun x s1 ⟨r, i, j, t, u, v, H1, ex, hr, I1, b1, b2, b3, b4, b5, q⟩ => args_nil ?_) na) na))
  subst ex
  refine call_tuple_range (n := (i - j).toNat) (I1.ok.hd hc) hr (PySem.W.small_down b1 b2 b3 b4) (PySem.W.rangeSize_downNat i j) b5 fun h' tk acc hk hi => ?_
  have I2 : Inv X pins σ H1 { s1 with heap := h', toks := tk } := I1.kept hk
  refine ⟨.ref h'.objs.size, upd H1 h'.objs.size (.tup (dnV i (i - j).toNat)), I2.laid (t' := tk) (fun c o e => Heap.get?_push_of_some _ e) (Nat.le_refl _) (show ObjOk X.prog X.w _ _ _ (.tup (dnV i (i - j).toNat)) from ⟨?_, acc.toList, vals_dn hi, ?_⟩), rfl, q _ (I2.hok.fresh (Nat.le_refl _))⟩
  · unfold dnV; rw [List.length_map, List.length_range, sizeLine_eq]; omega
  · rw [Array.toArray_toList]; exact IsTup.new _ _
theorem ctrd {a b c : Expr} {fa : SFs} {p p2 pos pos2 : Pos} (C : Ctx X E N sc kn own k) (hm : X.mg "tuple" = none) (hm2 : X.mg "range" = none) (ha : JA X E [a, b, c] fa) (hg : sc.names.lookup (Str.ofString "tuple") = some .globalImplicit := by decide +kernel) (hg2 : sc.names.lookup (Str.ofString "range") = some .globalImplicit := by decide +kernel)
    (na : starEach [.Call (.Name "range" p2) [a, b, c] [] pos2] X.env = (false, eval (.Call (.Name "range" p2) [a, b, c] [] pos2) X.env) :: starEach [] X.env := by rfl)
    (hs : starEach [a, b, c] X.env = (false, eval a X.env) :: starEach [b, c] X.env := by rfl) (hpl : (backTo pos2 (starEach [b, c] X.env)).any (·.1) = false := by rfl) :
    JE X E (.Call (.Name "tuple" p) [.Call (.Name "range" p2) [a, b, c] [] pos2] [] pos) (fTRd fa) := by
  refine PE.weak (pe_tupDn C.calm (C.gl hg) hm (C.gl hg2) hm2 ha na hs hpl) fun σ H Q ⟨ρ, M, σd, R, en, hp⟩ => ⟨ρ, M, σd, R, en, hp.bind.imp fun ds M1 ρ1 H1 x1 R1 hp1 vs rvs => ?_⟩
  split at hp1
  · rename_i i j k
    split at hp1
    · rename_i hk
      unfold dnOk small62 at hk
      simp only [Bool.and_eq_true, decide_eq_true_eq] at hk
      obtain ⟨⟨⟨hk, h1, h2⟩, h3, h4⟩, h5⟩ := hk
      subst hk
      cases rvs with
      | cons r rr =>
        cases rr with
        | cons r' rr =>
          cases rr with
          | cons r'' rr =>
            cases rr; cases r; cases r'; cases r''
            exact ⟨i, j, rfl, h1, h2, h3, h4, h5, hp1.tupNew R1 (dens_dn _ _)⟩
    · exact hp1.elim
  · exact hp1.elim
/-! ### text.index(sign) -/
def mSidx : D → List D → Mem → Out D := fun o ds M => match o, ds with
  | .str a, [.str b] => match Builtin.Str.occurrences ⟨a.toArray⟩ ⟨b.toArray⟩ 0 a.length 1 with
    | i :: _ => .ok (.int (i : Nat)) M
    | [] => .bad
  | _, _ => .bad
theorem om_sidx : MtR X "str.index" (rM X.K X.mg E mSidx) := by
  intro pins s σ H x xs v us Q I rx rs h
  obtain ⟨ρ, M, d, ds, R, r1, r2, hp⟩ := h
  unfold mSidx at hp
  split at hp
  · rename_i a b
    cases r1
    cases r2 with
    | cons q1 q2 =>
      cases q2
      cases q1
      split at hp
      · rename_i i rest e
        refine mt_sindex pins s σ H _ _ v us Q I rx rs ⟨_, _, i, rest, rfl, rfl, ?_, hp.here R _ (.int _)⟩
        rw [← e]
        show Builtin.Str.occurrences _ _ 0 a.toArray.size 1 = _
        rw [List.size_toArray]
      · exact hp.elim
  · exact hp.elim
end
end KP

/-! list(a text), sep.join(a text) -/
namespace KP
open PySem PySem.Spec PyProof.Rows L2
def signD (z : List Nat) : List D := z.map fun c => .str [c]
def signV (z : List Nat) : List V := z.map fun c => .str ⟨[c].toArray⟩
theorem dens_sign {K : PySem.W.Frag} {ρ : Nu} {H : Hp} : ∀ z : List Nat, Dens K ρ H (signD z) (signV z)
  | [] => .nil
  | c :: z => .cons (.str [c]) (dens_sign z)
theorem vals_sign {z : List Nat} {acc : Array Value} (h : ItemsOf (SignAt ⟨z.toArray⟩) acc z.toArray.size) : Vals (signV z) acc.toList := by
  have e : acc.toList.length = z.length := by rw [Array.length_toList, h.1]; simp
  have e2 : signV z = (List.range acc.toList.length).map fun j => V.str ⟨[z.getD j 0].toArray⟩ := by
    rw [e]
    unfold signV
    refine List.ext_getElem (by simp) fun j h1 h2 => ?_
    simp at h1
    simp [List.getD_eq_getElem?_getD, h1]
  rw [e2]
  refine vals_of_get acc.toList _ fun j u hj => ?_
  obtain ⟨c, t, hc, rfl⟩ := h.2 j u (by rw [← hj, Array.getElem?_toList])
  have hc' : z[j]? = some c := by simpa using hc
  refine ⟨t, ?_⟩
  rw [List.getD_eq_getElem?_getD, hc']
  rfl
def cListNS : List D → Mem → Out D := fun ds M => match ds with
  | [.str z] => if z.length ≤ 16777216 then .ok (.ref M.length) (M ++ [.lst (signD z)]) else .bad
  | ds => cListN ds M
def mJoinS : D → List D → Mem → Out D := fun o ds M => match o, ds with
  | .str a, [.str z] => if z.length + z.length * a.length ≤ 16777216 then .ok (.str (TL.joinL a (z.map fun c => [c]))) M else .bad
  | o, ds => mJoin o ds M
section
variable {X : Cx} {E : XK}
theorem oc_listNS (hcalm : X.calm = true) : CallR X (.type "list") (rC X.K X.mg E cListNS) := by
  intro pins s σ H xs us Q I r h
  obtain ⟨ρ, M, ds, R, rd, hp⟩ := id h
  unfold cListNS at hp
  split at hp
  · rename_i z
    split at hp
    · rename_i hz
      obtain ⟨v, rfl, r1⟩ := dens1 rd
      cases r1
      obtain ⟨u, eu, t, rfl⟩ := vals1 r
      subst eu
      have hsz : z.toArray.size ≤ sizeLine := by rw [List.size_toArray, sizeLine_eq]; omega
      refine call_list_str (I.ok.hd hcalm) (⟨z.toArray⟩ : Str) t (hn := hsz) fun h' tk acc c hk e hi => ?_
      exact ⟨.ref s.heap.objs.size, upd H s.heap.objs.size (.lst (signV z)), I.laid hk (Nat.le_refl _) (show ObjOk X.prog X.w _ _ _ (.lst (signV z)) from ⟨by unfold signV; rw [List.length_map, sizeLine_eq]; omega, acc.toList, c, vals_sign hi, by rw [Array.toArray_toList]; exact e⟩), rfl,
        hp.lstNew R (dens_sign z) _ (I.hok.fresh (Nat.le_refl _))⟩
    · exact hp.elim
  · exact oc_listN (E := E) pins s σ H xs us Q I r ⟨ρ, M, _, R, rd, hp⟩
theorem signs_eq (z : List Nat) : PyProof.Rows.signs ⟨z.toArray⟩ = (z.map fun c => [c]).map fun y => (⟨y.toArray⟩ : Str) := by
  unfold PyProof.Rows.signs
  rw [List.map_map]
  rfl
theorem om_joinS (hcalm : X.calm = true) : MtR X "str.join" (rM X.K X.mg E mJoinS) := by
  intro pins s σ H x xs v us Q I rx rs h
  obtain ⟨ρ, M, d, ds, R, r1, r2, hp⟩ := id h
  unfold mJoinS at hp
  split at hp
  · rename_i a z
    split at hp
    · rename_i hz
      cases r1
      cases r2 with
      | cons q1 q2 =>
        cases q2
        cases q1
        obtain ⟨t, rfl⟩ := rx
        cases rs with
        | cons p1 p2 =>
          cases p2
          obtain ⟨t2, rfl⟩ := p1
          have hz1 : (⟨z.toArray⟩ : Str).length ≤ z.length := by show z.toArray.size ≤ _; simp
          have ha1 : (⟨a.toArray⟩ : Str).length ≤ a.length := by show a.toArray.size ≤ _; simp
          refine PySem.SC.joinStr (I.ok.hd hcalm) (joinOk_signsN hz1 ha1 hz) fun h' k t' hk => ?_
          have e4 : Txt.join (⟨a.toArray⟩ : Str) (PyProof.Rows.signs ⟨z.toArray⟩) = ⟨(TL.joinL a (z.map fun c => [c])).toArray⟩ := by
            rw [signs_eq]; exact SX.join_S a _
          rw [e4]
          exact ⟨.str ⟨(TL.joinL a (z.map fun c => [c])).toArray⟩, H, I.kept (t' := k) hk, ⟨t', rfl⟩, hp.here R _ (.str _)⟩
    · exact hp.elim
  · exact om_join (E := E) pins s σ H x xs v us Q I rx rs ⟨ρ, M, _, _, R, r1, r2, hp⟩
end
end KP

/-! a tuple from its end: t[::-1] -/
namespace KP
open PySem PySem.Spec PyProof.Rows L2 HT
section
variable {prog : Program} {w : World} {A : Around} {E : Value → Shared → Prop} {s : Shared}
theorem sliceApplied_rev {sl : Addr} {n : Nat} {t : Tok} {Q : Int × Int × Nat → Shared → Prop} (hs : s.heap.IsSliceOf sl .none .none (.int (-1) t))
    (h : Q ((n : Int) - 1, -1, n) s) : wpAny (model prog w) A (Builtin.Slice.sliceApplied (.ref sl) (pure (n : Int))) Q E s := by
  obtain ⟨os, hos, hcs, hds⟩ := id hs
  unfold Builtin.Slice.sliceApplied Builtin.Slice.sliceFields
  refine wpAny_bind (wpAny_bind (wpAny_field hos hds (x := .none) rfl (wpAny_bind (wpAny_field hos hds (x := .none) rfl (wpAny_bind (wpAny_field hos hds (x := .int (-1) t) rfl (wpAny_pure ?_)))))))
  refine wpAny_bind (slicePart_int ?_)
  show wpAny _ _ (if ((-1 : Int) == 0) = true then _ else _) _ _ s
  rw [if_neg (by decide)]
  refine wpAny_bind (slicePart_none (wpAny_bind (slicePart_none (wpAny_bind (wpAny_pure ?_)))))
  have e1 : Builtin.Slice.sliceAdjust none none (-1) (n : Int) = ((n : Int) - 1, -1) := by
    unfold Builtin.Slice.sliceAdjust
    simp
  have e2 : Builtin.Slice.slicePlaces ((n : Int) - 1) (-1) (-1) = n := by
    unfold Builtin.Slice.slicePlaces
    simp
    omega
  show wpAny _ _ (match Builtin.Slice.sliceAdjust none none (-1) (n : Int) with | (lo, hi) => pure (lo, (-1 : Int), Builtin.Slice.slicePlaces lo hi (-1))) _ _ s
  rw [e1]
  show wpAny _ _ (pure ((n : Int) - 1, (-1 : Int), Builtin.Slice.slicePlaces ((n : Int) - 1) (-1) (-1))) _ _ s
  rw [e2]
  exact wpAny_pure h
theorem fm_range {α : Type} (f : Nat → Option α) : ∀ (k : Nat) (ys : List α), k ≤ ys.length → (∀ m, m < k → f m = ys[m]?) → (List.range k).filterMap f = ys.take k
  | 0, _, _, _ => rfl
  | k + 1, ys, hk, h => by
    rw [List.range_succ, List.filterMap_append, fm_range f k ys (by omega) (fun m hm => h m (by omega))]
    have e : f k = some ys[k] := by rw [h k (by omega), List.getElem?_eq_getElem (by omega)]
    rw [List.filterMap_cons_some e, List.filterMap_nil, List.take_succ, List.getElem?_eq_getElem (by omega)]
    rfl
theorem pick_rev (xs : Array Value) : ((List.range xs.size).filterMap fun (m : Nat) => xs[(((xs.size : Int) - 1) + (m : Int) * (-1)).toNat]?).toArray = xs.toList.reverse.toArray := by
  have hl : xs.toList.reverse.length = xs.size := by simp
  rw [fm_range _ xs.size xs.toList.reverse (by omega) fun m hm => ?_, List.take_of_length_le (by omega)]
  rw [List.getElem?_reverse (by simpa using hm)]
  have : (((xs.size : Int) - 1) + (m : Int) * (-1)).toNat = xs.toList.length - 1 - m := by simp; omega
  rw [this]
  simp
theorem getItem_tuple_rev {t sl : Addr} {items : Array Value} {tk : Tok} {Q : Value → Shared → Prop} (ht : IsTup s.heap t items) (hs : s.heap.IsSliceOf sl .none .none (.int (-1) tk))
    (h : Q (.ref s.heap.objs.size) { s with heap := s.heap.push { cls := .type "tuple", data := .seq items.toList.reverse.toArray } })
    (hsz : items.size ≤ sizeLine) : wpAny (model prog w) A (getItem (.ref t) (.ref sl)) Q E s := by
  have htake : sizeOk (.seq items.toList.reverse.toArray) := by
    show items.toList.reverse.toArray.size ≤ sizeLine
    rw [List.size_toArray, List.length_reverse, Array.length_toList]
    exact hsz
  obtain ⟨os, hos, hcs, hds⟩ := id hs
  have hTs : s.TypeIs (.ref sl) "slice" := ⟨os, hos, hcs⟩
  unfold getItem
  try with_reducible refine wpAny_holding ?_
  first | refine wpAny_bind (wpAny_pure ?_) | skip
  refine wpAny_bind (wpAny_sequenceKey ht.typeIs (by decide) ?_)
  refine wpAny_bind (wpAny_callSpecial?_slot (name := Str.ofString "__getitem__") ht.typeIs PyProof.Rows.slot_tuple_getitem
    (wpAny_call_entry PyProof.Rows.slot_tuple_getitem ht.typeIs entry_tuple_getitem ?_ (args_tuple_getitem _ _)))
  show wpAny _ _ (Builtin.Tuple.tupleItemsOf (.ref t) >>= _) _ _ s
  refine wpAny_bind (tupleItemsOf_ ht ?_)
  refine wpAny_bind (wpAny_typeOf hTs ?_)
  rw [if_pos (by decide)]
  refine wpAny_bind (sliceApplied_rev hs ?_)
  show wpAny _ _ (if (((items.size : Int) - 1 == 0) && ((-1 : Int) == 1) && (items.size == items.size)) = true then _ else _) _ _ s
  rw [if_neg (by simp), pick_rev]
  first
    | exact wpAny_bind (m := Builtin.Tuple.tupleExact _) (wpAny_newObj_type (wpAny_pure ⟨_, rfl, wpAny_pure h⟩) htake)
    | exact wpAny_bind (m := Builtin.Tuple.tupleExact _) (wpAny_newObj_type (wpAny_bind (wpAny_pure (wpAny_pure ⟨_, rfl, wpAny_pure h⟩))) htake)
    | exact wpAny_bind (wpAny_bind (m := Builtin.Tuple.tupleExact _) (wpAny_newObj_type (wpAny_pure (wpAny_pure ⟨_, rfl, wpAny_pure h⟩)) htake))
    | exact wpAny_bind (wpAny_bind (m := Builtin.Tuple.tupleExact _) (wpAny_newObj_type (wpAny_pure ⟨_, rfl, wpAny_pure h⟩) htake))
end
section
variable {X : Cx} {E : XK}
def fRev (f : SF) (g : SF) : SF := fun σ M => (f σ M).bind fun x M1 => (g σ M1).bind fun st M2 => match x, st with
  | .tup xs, .int i => if i = -1 then .ok (.tup xs.reverse) M2 else .bad
  | _, _ => .bad
theorem je_rev {e st : Expr} {f g : SF} {p2 pos : Pos} (he : JE X E e f) (hst : JE X E st g) : JE X E (.Subscript e (.Slice none none (some st) p2) pos) (fRev f g) := by
  refine PE.weak (t := fun σ H Q => tE X.K X.mg E f σ H fun v H1 => tE X.K X.mg E g σ H1 fun u H2 => ∃ a vs, v = .ref a ∧ u = .int (-1) ∧ SqT X.K H2 a vs ∧ ∀ p, H2 p = none → Q (.ref p) (upd H2 p (.tup vs.reverse))) ?_ fun σ H Q ⟨ρ, M, σd, R, en, hp⟩ => ?_
  · refine ⟨fun pins s σ H Q I h => ?_⟩
    refine Subscript_ (thn (he.run pins s σ H _ I h) fun v s1 ⟨x, H1, I1, r1, q1⟩ => ?_)
    refine wpAny_Slice ?_
    rw [evalPart_none]
    refine wpAny_pure ?_
    refine wpAny_pure ?_
    rw [evalPart_some]
    refine thn (hst.run pins s1 σ H1 _ I1 q1) fun u s2 ⟨y, H2, I2, r2, q2⟩ => ?_
    obtain ⟨a, vs, rfl, rfl, hs, q⟩ := q2
    obtain ⟨tk, rfl⟩ := r2
    cases r1
    have I3 : Inv X pins σ H2 { s2 with heap := s2.heap.push { cls := .type "slice", data := .fields #[.none, .none, .int (-1) tk] } } := I2.kept (t' := s2.toks) fun b ob q => Heap.get?_push_of_some _ q
    obtain ⟨its, r, ht, hz⟩ := I3.tuple hs
    have hsz : its.toArray.size ≤ sizeLine := by rw [List.size_toArray, ← r.length]; exact hz
    have hg : wpAny (model X.prog X.w) X.A (getItem (.ref a) (.ref s2.heap.objs.size)) (EP X pins σ Q) X.xe { s2 with heap := s2.heap.push { cls := .type "slice", data := .fields #[.none, .none, .int (-1) tk] } } := by
      refine getItem_tuple_rev ht (Heap.IsSliceOf.new ..) ?_ hsz
      refine ⟨.ref _, _, I3.laid (t' := s2.toks) (o := .tup vs.reverse) (fun b ob q => Heap.get?_push_of_some _ q) (Nat.le_refl _) ?_, rfl, q _ (I3.hok.fresh (Nat.le_refl _))⟩
      refine ⟨by rw [List.length_reverse]; exact hz, its.reverse, r.reverse, ?_⟩
      have e : its.toArray.toList.reverse = its.reverse := by simp
      rw [e]
      exact IsTup.new _ _
    show wpAny (model X.prog X.w) X.A (subscriptTail e (.Slice none none (some st) p2) (.ref a) (.ref s2.heap.objs.size)) (EP X pins σ Q) X.xe { s2 with heap := s2.heap.push { cls := .type "slice", data := .fields #[.none, .none, .int (-1) tk] } }
    exact tail_any (ops := [.ref a, .ref s2.heap.objs.size]) ht.typeIs PyProof.Rows.slot_tuple_getitem.lookup hg (by with_unfolding_all rfl)
  · refine ⟨ρ, M, σd, R, en, hp.bind.imp fun x M1 ρ1 H1 x1 R1 hp1 v rv => ?_⟩
    refine ⟨ρ1, M1, σd, R1, en.ext R x1, hp1.bind.imp fun y M2 ρ2 H2 x2 R2 hp2 u ru => ?_⟩
    have rv2 := rv.ext R1 x2
    split at hp2
    · split at hp2
      · rename_i hi
        subst hi
        cases ru
        cases rv2 with
        | tup hs t => exact ⟨_, _, rfl, rfl, hs.sq, hp2.tupNew R2 t.reverse⟩
      · exact hp2.elim
    · exact hp2.elim
end
end KP

/-! text.lower(), text.upper(), text.isupper(), text.find(..), text.count(..) -/
namespace KP
open PySem PySem.Spec PyProof.Rows L2
def lowL (z : List Nat) : List Nat := (Txt.lower ⟨z.toArray⟩).cps.toList
def uppL (z : List Nat) : List Nat := (Txt.upper ⟨z.toArray⟩).cps.toList
def mLower : D → List D → Mem → Out D := fun o ds M => match o, ds with
  | .str z, [] => if z.length ≤ 5592405 then .ok (.str (lowL z)) M else .bad
  | _, _ => .bad
def mUpper : D → List D → Mem → Out D := fun o ds M => match o, ds with
  | .str z, [] => if z.length ≤ 5592405 then .ok (.str (uppL z)) M else .bad
  | _, _ => .bad
def mIsupper : D → List D → Mem → Out D := fun o ds M => match o, ds with
  | .str z, [] => .ok (.bl (Txt.isupper ⟨z.toArray⟩)) M
  | _, _ => .bad
def mFind : D → List D → Mem → Out D := fun o ds M => match o, ds with
  | .str a, [.str b] => .ok (.int (Txt.find ⟨a.toArray⟩ ⟨b.toArray⟩)) M
  | _, _ => .bad
def mCountS : D → List D → Mem → Out D := fun o ds M => match o, ds with
  | .str a, [.str b] => .ok (.int (Txt.count ⟨a.toArray⟩ ⟨b.toArray⟩)) M
  | _, _ => .bad
section
variable {X : Cx} {E : XK}
theorem om_isupper : MtR X "str.isupper" (rM X.K X.mg E mIsupper) := by
  intro pins s σ H x xs v us Q I rx rs h
  obtain ⟨ρ, M, d, ds, R, r1, r2, hp⟩ := h
  unfold mIsupper at hp
  split at hp
  · cases r1
    cases r2
    exact mt_isupper pins s σ H _ _ v us Q I rx rs ⟨_, rfl, rfl, trivial, hp.here R _ (.bl _)⟩
  · exact hp.elim
theorem om_find : MtR X "str.find" (rM X.K X.mg E mFind) := by
  intro pins s σ H x xs v us Q I rx rs h
  obtain ⟨ρ, M, d, ds, R, r1, r2, hp⟩ := h
  unfold mFind at hp
  split at hp
  · cases r1
    cases r2 with
    | cons q1 q2 =>
      cases q2
      cases q1
      exact mt_find pins s σ H _ _ v us Q I rx rs ⟨_, _, rfl, rfl, hp.here R _ (.int _)⟩
  · exact hp.elim
theorem om_countS : MtR X "str.count" (rM X.K X.mg E mCountS) := by
  intro pins s σ H x xs v us Q I rx rs h
  obtain ⟨ρ, M, d, ds, R, r1, r2, hp⟩ := h
  unfold mCountS at hp
  split at hp
  · cases r1
    cases r2 with
    | cons q1 q2 =>
      cases q2
      cases q1
      exact mt_count pins s σ H _ _ v us Q I rx rs ⟨_, _, rfl, rfl, hp.here R _ (.int _)⟩
  · exact hp.elim
theorem str_back (x : Str) : (⟨x.cps.toList.toArray⟩ : Str) = x := by
  obtain ⟨⟨l⟩⟩ := x
  rfl
theorem om_lower : MtR X "str.lower" (rM X.K X.mg E mLower) := by
  intro pins s σ H x xs v us Q I rx rs h
  obtain ⟨ρ, M, d, ds, R, r1, r2, hp⟩ := h
  unfold mLower at hp
  split at hp
  · rename_i z
    split at hp
    · rename_i hz
      cases r1
      cases r2
      refine mt_lower pins s σ H _ _ v us Q I rx rs ⟨_, rfl, rfl, by show z.toArray.size ≤ _; simpa using hz, ?_⟩
      have := hp.here R _ (.str (lowL z))
      unfold lowL at this
      rw [str_back] at this
      exact this
    · exact hp.elim
  · exact hp.elim
theorem om_upper : MtR X "str.upper" (rM X.K X.mg E mUpper) := by
  intro pins s σ H x xs v us Q I rx rs h
  obtain ⟨ρ, M, d, ds, R, r1, r2, hp⟩ := h
  unfold mUpper at hp
  split at hp
  · rename_i z
    split at hp
    · rename_i hz
      cases r1
      cases r2
      refine mt_upper pins s σ H _ _ v us Q I rx rs ⟨_, rfl, rfl, by show z.toArray.size ≤ _; simpa using hz, ?_⟩
      have := hp.here R _ (.str (uppL z))
      unfold uppL at this
      rw [str_back] at this
      exact this
    · exact hp.elim
  · exact hp.elim
end
end KP

/-! a list from its end: xs[::-1] -/
namespace KP
open PySem PySem.Spec PyProof.Rows L2 HT
theorem slicePick_rev (items : Array Value) : slicePick items none none (some (-1)) = items.toList.reverse.toArray := by
  have hb : sliceBounds none none (some (-1)) items.size = ((items.size : Int) - 1, -1, -1) := rfl
  unfold slicePick
  rw [hb]
  have hr : sliceRange ((items.size : Int) - 1) (-1) (-1) = (List.range items.size).map fun (k : Nat) => (((items.size : Int) - 1) + (-1) * (k : Int)).toNat := by
    unfold sliceRange
    have : (if (-1 : Int) > 0 then (if (items.size : Int) - 1 < -1 then ((-1 : Int) - ((items.size : Int) - 1) + (-1) - 1) / (-1) else 0) else (if (items.size : Int) - 1 > -1 then ((items.size : Int) - 1 - (-1) - (-1) - 1) / (-(-1)) else 0)).toNat = items.size := by
      rw [if_neg (by decide)]
      split
      · simp
      · omega
    exact congrArg (fun n => (List.range n).map fun (k : Nat) => (((items.size : Int) - 1) + (-1) * (k : Int)).toNat) this
  show ((sliceRange ((items.size : Int) - 1) (-1) (-1)).filterMap (items[·]?)).toArray = _
  rw [hr, List.filterMap_map]
  have hl : items.toList.reverse.length = items.size := by simp
  rw [fm_range _ items.size items.toList.reverse (by omega) fun m hm => ?_, List.take_of_length_le (by omega)]
  rw [List.getElem?_reverse (by simpa using hm)]
  show items[(((items.size : Int) - 1) + (-1) * (m : Int)).toNat]? = _
  have : (((items.size : Int) - 1) + (-1) * (m : Int)).toNat = items.toList.length - 1 - m := by simp; omega
  rw [this]
  simp
section
variable {X : Cx} {E : XK}
def fRevL (f : SF) (g : SF) : SF := fun σ M => (f σ M).bind fun x M1 => (g σ M1).bind fun st M2 => match st with
  | .int i => if i = -1 then optO (lsO x M2) fun xs => .ok (.lst xs.reverse) M2 else .bad
  | _ => .bad
theorem je_revL {e st : Expr} {f g : SF} {p2 pos : Pos} (he : JE X E e f) (hst : JE X E st g) : JE X E (.Subscript e (.Slice none none (some st) p2) pos) (fRevL f g) := by
  refine PE.weak (t := fun σ H Q => tE X.K X.mg E f σ H fun v H1 => tE X.K X.mg E g σ H1 fun u H2 => ∃ a vs, v = .ref a ∧ u = .int (-1) ∧ SqL X.K H2 a vs ∧ ∀ p, H2 p = none → Q (.ref p) (upd H2 p (.lst vs.reverse))) ?_ fun σ H Q ⟨ρ, M, σd, R, en, hp⟩ => ?_
  · refine ⟨fun pins s σ H Q I h => ?_⟩
    refine Subscript_ (thn (he.run pins s σ H _ I h) fun v s1 ⟨x, H1, I1, r1, q1⟩ => ?_)
    refine wpAny_Slice ?_
    rw [evalPart_none]
    refine wpAny_pure ?_
    refine wpAny_pure ?_
    rw [evalPart_some]
    refine thn (hst.run pins s1 σ H1 _ I1 q1) fun u s2 ⟨y, H2, I2, r2, q2⟩ => ?_
    obtain ⟨a, vs, rfl, rfl, hs, q⟩ := q2
    obtain ⟨tk, rfl⟩ := r2
    cases r1
    have I3 : Inv X pins σ H2 { s2 with heap := s2.heap.push { cls := .type "slice", data := .fields #[.none, .none, .int (-1) tk] } } := I2.kept (t' := s2.toks) fun b ob q => Heap.get?_push_of_some _ q
    obtain ⟨its, r, ht, hz⟩ := I3.list hs
    have hsz : its.toArray.size ≤ sizeLine := by rw [List.size_toArray, ← r.length]; exact hz
    have hg : wpAny (model X.prog X.w) X.A (getItem (.ref a) (.ref s2.heap.objs.size)) (EP X pins σ Q) X.xe { s2 with heap := s2.heap.push { cls := .type "slice", data := .fields #[.none, .none, .int (-1) tk] } } := by
      refine wpAny_getItem_list_slice ht.isList (Heap.IsSliceOf.new ..) .none .none (.int (-1) tk) (by simp) ?_ hsz
      rw [slicePick_rev]
      refine ⟨.ref _, _, I3.laid (t' := s2.toks) (o := .lst vs.reverse) (fun b ob q => Heap.get?_push_of_some _ q) (Nat.le_refl _) ?_, rfl, q _ (I3.hok.fresh (Nat.le_refl _))⟩
      refine ⟨by rw [List.length_reverse]; exact hz, its.reverse, 0, r.reverse, ?_⟩
      have e : its.toArray.toList.reverse = its.reverse := by simp
      rw [e]
      exact Heap.get?_push_size _ rfl
    show wpAny (model X.prog X.w) X.A (subscriptTail e (.Slice none none (some st) p2) (.ref a) (.ref s2.heap.objs.size)) (EP X pins σ Q) X.xe { s2 with heap := s2.heap.push { cls := .type "slice", data := .fields #[.none, .none, .int (-1) tk] } }
    exact tail_any (ops := [.ref a, .ref s2.heap.objs.size]) ht.isList.typeIs slot_list_getitem.lookup hg (by with_unfolding_all rfl)
  · refine ⟨ρ, M, σd, R, en, hp.bind.imp fun x M1 ρ1 H1 x1 R1 hp1 v rv => ?_⟩
    refine ⟨ρ1, M1, σd, R1, en.ext R x1, hp1.bind.imp fun y M2 ρ2 H2 x2 R2 hp2 u ru => ?_⟩
    have rv2 := rv.ext R1 x2
    split at hp2
    · split at hp2
      · rename_i hi
        subst hi
        cases ru
        obtain ⟨xs, e, hp3⟩ := optO_post hp2
        obtain ⟨a, vs, rfl, hs, t⟩ := lsO_some R2 rv2 e
        exact ⟨_, _, rfl, rfl, hs, hp3.lstTmp R2 t.reverse⟩
      · exact hp2.elim
    · exact hp2.elim
end
end KP

/-! a thing of its own (a set) that is being made: nobody has it in hand -/
namespace KP
open PySem PySem.Spec PyProof.Rows L2
section
variable {K : PySem.W.Frag} {ρ ρ' : Nu} {H H' : Hp}
mutual
theorem Den.heldE {p : Addr} {f f' : Heap → Prop} (hp : p ∈ ρ.res) (h : H p = some (.ext f)) : ∀ {d : D} {v : V}, Den K ρ H d v → Den K ρ (upd H p (.ext f')) d v
  | _, _, .non => .non
  | _, _, .bl b => .bl b
  | _, _, .int i => .int i
  | _, _, .str z => .str z
  | _, _, .tup hs t => .tup (hs.map (fun hs => by
      rcases hs with (hs | ⟨ob, hs⟩) | hs
      · exact .inl (.inl (by rw [upd_ne (ne_of hs h (by simp))]; exact hs))
      · exact .inl (.inr ⟨ob, by rw [upd_ne (ne_of hs h (by simp))]; exact hs⟩)
      · exact .inr hs) fun hs => by rw [upd_ne (ne_of hs h (by simp))]; exact hs) (Dens.heldE hp h t)
  | _, _, .lst h1 h2 hs t => .lst h1 h2 (by rw [upd_ne (fun e => h2 (by rw [e]; exact hp))]; exact hs) (Dens.heldE hp h t)
  | _, _, .fl hs t => .fl (by
      rcases hs with ⟨ob, hs⟩ | hs
      · exact .inl ⟨ob, by rw [upd_ne (ne_of hs h (by simp))]; exact hs⟩
      · exact .inr hs) (Dens.heldE hp h t)
  | _, _, .ref hr => .ref hr
  | _, _, .ty n => .ty n
theorem Dens.heldE {p : Addr} {f f' : Heap → Prop} (hp : p ∈ ρ.res) (h : H p = some (.ext f)) : ∀ {ds : List D} {vs : List V}, Dens K ρ H ds vs → Dens K ρ (upd H p (.ext f')) ds vs
  | _, _, .nil => .nil
  | _, _, .cons r t => .cons (Den.heldE hp h r) (Dens.heldE hp h t)
end
mutual
theorem Den.erE {p : Addr} {f : Heap → Prop} (h : H p = some (.ext f)) : ∀ {d : D} {v : V}, Den K (ρ.hold p) H d v → Den K ρ (KP.er H p) d v
  | _, _, .non => .non
  | _, _, .bl b => .bl b
  | _, _, .int i => .int i
  | _, _, .str z => .str z
  | _, _, .tup hs t => .tup (hs.map (fun hs => by
      rcases hs with (hs | ⟨ob, hs⟩) | hs
      · exact .inl (.inl (by rw [er_ne (ne_of hs h (by simp))]; exact hs))
      · exact .inl (.inr ⟨ob, by rw [er_ne (ne_of hs h (by simp))]; exact hs⟩)
      · exact .inr hs) fun hs => by rw [er_ne (ne_of hs h (by simp))]; exact hs) (Dens.erE h t)
  | _, _, .lst h1 h2 hs t => .lst h1 (fun hm => h2 (List.mem_cons_of_mem _ hm)) (by rw [er_ne (fun e => h2 (by rw [e]; exact List.mem_cons_self))]; exact hs) (Dens.erE h t)
  | _, _, .fl hs t => .fl (by
      rcases hs with ⟨ob, hs⟩ | hs
      · exact .inl ⟨ob, by rw [er_ne (ne_of hs h (by simp))]; exact hs⟩
      · exact .inr hs) (Dens.erE h t)
  | _, _, .ref hr => .ref hr
  | _, _, .ty n => .ty n
theorem Dens.erE {p : Addr} {f : Heap → Prop} (h : H p = some (.ext f)) : ∀ {ds : List D} {vs : List V}, Dens K (ρ.hold p) H ds vs → Dens K ρ (KP.er H p) ds vs
  | _, _, .nil => .nil
  | _, _, .cons r t => .cons (Den.erE h r) (Dens.erE h t)
end
theorem Rep.erE {M : Mem} {p : Addr} {f : Heap → Prop} (R : Rep K (ρ.hold p) M H) (h : H p = some (.ext f)) (hp : p ∉ ρ.res) : Rep K ρ M (KP.er H p) :=
  ⟨R.len, R.nd, fun i a u e1 e2 => (R.obj i a u e1 e2).map (a' := a) (er_ne (fun z => (R.held p List.mem_cons_self).2 (by rw [← z]; exact List.mem_of_getElem? e1))) (Dens.erE h), fun z hz =>
    ⟨by rw [er_ne (fun e => hp (by rw [← e]; exact hz))]; exact (R.held z (List.mem_cons_of_mem _ hz)).1, (R.held z (List.mem_cons_of_mem _ hz)).2⟩⟩
theorem Rep.heldWE {M : Mem} (R : Rep K ρ M H) {p : Addr} {f f' : Heap → Prop} (hp : p ∈ ρ.res) (h : H p = some (.ext f)) : Rep K ρ M (upd H p (.ext f')) :=
  ⟨R.len, R.nd, fun i a u e1 e2 => (R.obj i a u e1 e2).map (a' := a) (upd_ne (fun z => (R.held p hp).2 (by rw [← z]; exact List.mem_of_getElem? e1))) (Dens.heldE hp h), fun z hz => ⟨upd_live (R.held z hz).1, (R.held z hz).2⟩⟩
end
theorem Post.holdE {K : PySem.W.Frag} {mg : Str → Option Value} {ρ : Nu} {H : Hp} {p : Addr} {f : Heap → Prop} {α : Type} {x : Out α} {P : α → Mem → Nu → Hp → Prop} (h : H p = some (.ext f)) (hp : p ∉ ρ.res) (hn : p ∉ ρ.num) (q : Post K mg EF ρ (er H p) x P) :
    Post K mg EF (ρ.hold p) H x fun a M ρ' H' => ∃ ρ3, ρ' = ρ3.hold p ∧ p ∉ ρ3.res ∧ H' p = some (.ext f) ∧ Ext ρ (er H p) ρ3 (er H' p) ∧ P a M ρ3 (er H' p) := by
  cases x with
  | bad => exact q
  | ok a M =>
    intro ρ' H' x R
    obtain ⟨e1, x1⟩ := x.er (by rw [h]; simp)
    have hk : H' p = some (.ext f) := x.keep p _ h (.inl hn)
    have R' := R
    rw [e1] at R'
    exact ⟨_, e1, hp, hk, x1, q _ _ x1 (R'.erE hk hp)⟩
  | exc n fs M =>
    intro ρ' H' x R C d vs m1 m2 m3 m4
    obtain ⟨e1, x1⟩ := x.er (by rw [h]; simp)
    have hk : H' p = some (.ext f) := x.keep p _ h (.inl hn)
    have R' := R
    rw [e1] at R' m4
    have hd : d ≠ p := ne_of m2 hk (by simp)
    exact q _ _ x1 (R'.erE hk hp) C d vs m1 (by rw [er_ne hd]; exact m2) m3 (m4.erE hk)
end KP

/-! a set of ints made by a comprehension, and sorted -/
namespace KP
open PySem PySem.Spec PyProof.Rows L2 PpSet
/-- what a block knows where it starts: the set's address is D -/
def setPlus (S : Int → Bool) (k : Int) : Int → Bool := fun j => S j || decide (j = k)
def setSize (S : Int → Bool) (n : Nat) (k : Int) : Nat := if S k = true then n else n + 1
/-- one turn of a set comprehension -/
def TurnSI (w : World) (D : Addr) (g : TG) (tt : TT) (te : TE) (vs : List Nat) (σ : L2.St) (x : V) (Nx : Hp → Prop) (H : Hp) : Prop :=
  g x (wipe σ vs) H fun σ2 H2 => wipe σ2 vs = wipe σ vs ∧ tt σ2 H2 fun b H3 => if b = true then
    te σ2 H3 fun y H4 => ∃ (c : Int) (S : Int → Bool) (n : Nat), y = .int c ∧ H4 D = some (SetO w D S n) ∧ n + 1 < scanBound ∧ Nx (upd H4 D (SetO w D (setPlus S c) (setSize S n c)))
  else Nx H3
def tScI (w : World) (wi : TI) (g : TG) (tt : TT) (te : TE) (vs : List Nat) : TE := fun σ H Q =>
  wi σ H fun J H1 => ∀ D, H1 D = none → ∃ W : Nat → Nat → Hp → Prop, (∃ m, W 0 m (upd H1 D (SetO w D (fun _ => false) 0))) ∧ ∀ i m H, W i m H →
    (J.stop i H ∧ Q (.ref D) H) ∨ (J.go i H ∧ ∃ Nx : Hp → Prop, (∀ H', Nx H' → ∃ m', m' < m ∧ W (i + 1) m' H') ∧ ∀ x H', J.yld i H x H' → TurnSI w D g tt te vs σ x Nx H')
section
variable {X : Cx}
theorem add_int {pins : List (Addr × Obj)} {σ : L2.St} {H : Hp} {s : Shared} {D : Addr} {S : Int → Bool} {n : Nat} {y : Int} {z : Value} {P : Value → Shared → Prop} (I : Inv X pins σ H s) (hD : H D = some (SetO X.w D S n)) (room : n + 1 < scanBound) (rz : RelV (.int y) z)
    (h : ∀ s', Inv X pins σ (upd H D (SetO X.w D (setPlus S y) (setSize S n y))) s' → P .none s') : wpAny (model X.prog X.w) X.A (call (.builtin "set.add") [.ref D, z]) P X.xe s := by
  refine thn (mt_sadd pins s σ H (.ref D) [.int y] (.ref D) [z] (fun d H' => d = .non ∧ H' = upd H D (SetO X.w D (setPlus S y) (setSize S n y))) I rfl (.cons rz .nil) ⟨D, y, S, n, rfl, rfl, hD, room, rfl, rfl⟩) fun v s' hq => ?_
  obtain ⟨d, H', I', rd, e1, e2⟩ := hq
  subst e1 e2
  cases rd
  exact h s' I'
/-- the block's place in the store: what stands where it starts, and what its iterator stands on -/
theorem at_rest {Y : Cx} {fp : List Addr} (hx : Y.ex = fp) (hy : Y.pn = []) {τ : L2.St} {G : Hp} {t : Shared} (I : Inv Y [] τ G t) (hn : ∀ b ∈ fp, G b = none) (b : Addr) (hb : b ∈ fp) : FpOk Y [] G b := by
  subst hx
  have k := I.ok.exf b hb
  exact ⟨hn b hb, k.1, I.ok.exfs b hb, .inl hb, fun y c e => k.2 y c e, fun q hq => absurd hq (by rw [hy]; simp)⟩
/-- {elt for tg in iter if ..}, elt an int, as a value -/
theorem pe_scI {elt tg iter : Expr} {ifs : List Expr} {scope : Scope} {own : List (PySem.Str × Nat)} {pos : Pos} {wi : TI} {g : TG} {tt : TT} {te : TE} (hc : X.calm = true) (hN : X.N.Nodup) (hi : PI X tg iter wi) (ok : BlkOk X.N X.env.scope scope own)
    (hg : ∀ (s' : Shared) (G : Hp) (C : Addr) (cl : List (PySem.Str × Addr)) (fp : List Addr), PG (X.blk s' G scope (compEnvC scope cl C X.env) fp) tg g)
    (ht : ∀ (s' : Shared) (G : Hp) (C : Addr) (cl : List (PySem.Str × Addr)) (fp : List Addr), PTs (X.blk s' G scope (compEnvC scope cl C X.env) fp) ifs tt)
    (he : ∀ (s' : Shared) (G : Hp) (C : Addr) (cl : List (PySem.Str × Addr)) (fp : List Addr), PE (X.blk s' G scope (compEnvC scope cl C X.env) fp) elt te)
    (hs : ∀ x, foldedSetIterable iter X.env x = pure x := by intro _; rfl) :
    PE X (.SetComp elt [⟨tg, iter, ifs, 0⟩] scope pos) (tScI X.w wi g tt te (own.map (·.2))) := by
  refine ⟨fun pins s σ H Q I h => ?_⟩
  have caught : ∀ y ∈ scope.names, y.2 = .free → ∃ c, X.env.cells.lookup y.1 = some c := fun y hy e => I.ok.has _ (ok.free y hy e)
  rw [eval_SetComp]
  refine wpAny_comprehension_free rfl hs (closure_ok caught) ok.kind (fun y hy e => by rw [ok.uniq y hy, e]) (thn (hi.run pins s σ H _ I h) fun xv sa ha => thn ha fun itv sb hb => ?_)
  obtain ⟨it, fp, tn, J, Hb, e, Ib, T, stb, fb, q⟩ := hb
  subst e
  refine newSet_ok (newEnv_comp ?_)
  generalize eD : sb.heap.objs.size = D
  obtain ⟨W, ⟨m0, w0⟩, turn⟩ := q D (Ib.hok.fresh (Nat.le_of_eq eD))
  generalize eo : ({ cls := .type "set", dict := none, data := .set #[] 0 (.fresh 0 0 (!X.w.params.followText "set-order")) } : Obj) = o
  generalize ec : ({ sb with heap := sb.heap.push o } : Shared) = sc
  have Ic : Inv X pins σ (upd Hb D (SetO X.w D (fun _ => false) 0)) sc := by
    subst ec eo eD
    exact Ib.laid (t' := sb.toks) (fun b u e => Heap.get?_push_of_some _ e) (Nat.le_refl _) (setO_new (setR_fresh X.w))
  have hc' : sc.heap = sb.heap.push o := by rw [← ec]
  have old : ∀ b ∈ fp, b < sb.heap.objs.size := fun b hb => by
    obtain ⟨u, e, _⟩ := T.obj _ _ stb b hb
    exact Heap.lt_size e
  generalize eG : upd Hb D (SetO X.w D (fun _ => false) 0) = G at Ic w0
  have fc : ∀ b ∈ fp, FpOk X pins G b ∧ b < sc.heap.objs.size := fun b hb => by
    have l := old b hb
    have f := fb b hb
    subst eG eD
    refine ⟨⟨?_, f.2⟩, by rw [hc', Heap.size_push]; exact Nat.lt_succ_of_lt l⟩
    rw [upd_ne (Nat.ne_of_lt l)]
    exact f.1
  have stc : tn 0 sc.heap := T.keep _ _ _ stb fun b _ u e => by rw [hc']; exact Heap.get?_push_of_some _ e
  have Id := block_start Ic ok hN fc
  generalize eC : sc.heap.objs.size = C at Id
  generalize ecl : cellsFrom (C + 1) scope.names (cloFrom X.env.cells scope.names []) = cl at Id
  have pg := hg sc G C cl fp
  have pt := ht sc G C cl fp
  have pe := he sc G C cl fp
  show codeAny _ _ (.compStart (.SetComp elt [⟨tg, iter, ifs, 0⟩] scope pos) 0 (.ref it) (.ref D) (compEnvC scope cl C X.env))
    (compPost (model X.prog X.w) X.A X.xe none (EP X pins σ Q) (.ref D) C) { sc with heap := pushCells (sc.heap.push { cls := .type "dict", data := .dict #[] }) scope.names }
  have clear : ∀ b ∈ fp, G b = none := fun b hb => (fc b hb).1.1
  generalize ece : compEnvC scope cl C X.env = ce at Id pg pt pe ⊢
  have eL : ce.locals = C := by subst ece; rfl
  generalize ed : ({ sc with heap := pushCells (sc.heap.push { cls := .type "dict", data := .dict #[] }) scope.names } : Shared) = sd at Id ⊢
  have std : tn 0 sd.heap := T.keep _ _ _ stc fun b _ u e => by rw [← ed]; exact pushCells_keeps _ _ _ _ (Heap.get?_push_of_some _ e)
  let Loop : Nat → Shared → Prop := fun m t => ∃ i F, Inv (X.blk sc G scope ce fp) [] (wipe σ (own.map (·.2))) F t ∧ tn i t.heap ∧ (∀ b ∈ fp, F b = none) ∧ W i m F
  have loop : codeAny (model X.prog X.w) X.A (.compLoop (.SetComp elt [⟨tg, iter, ifs, 0⟩] scope pos) 0 (.ref it) (.ref D) ce) (compPost (model X.prog X.w) X.A X.xe none (EP X pins σ Q) (.ref D) C) sd := by
    refine compLoopS_any Loop ?_ m0 ⟨0, G, Id, std, clear, w0⟩
    rintro n t ⟨i, F, It, stt, nt, w⟩
    rcases turn i n F w with ⟨stop, qq⟩ | ⟨go, Nx, hNx, step⟩
    · refine thnF (T.done (X.blk sc G scope ce fp) rfl rfl rfl (hc) i [] t _ F (fun _ _ => False) It (at_rest (Y := X.blk sc G scope ce fp) rfl rfl It nt) stt stop) fun r u ⟨er, Iu⟩ => ?_
      subst er
      have Iv : Inv X pins σ F u := Ic.call' (ch := fp) Iu.os (Iu.base) (Iu.hok) Iu.bare fun b hb => let f := (fc b hb).1; ⟨f.2.2.2.1, f.2.1, f.2.2.2.2.1, f.2.2.2.2.2⟩
      have nC : F C = none := by
        have z : F ce.locals = none := Iu.free
        rwa [eL] at z
      have Il := Iu.loc
      obtain ⟨m, hm, _⟩ := Il
      have hm : u.heap.Ns ce.locals m := hm
      rw [eL] at hm
      obtain ⟨f0, f1, f2, f3, f4, f5⟩ := Ic.fpOk (Nat.le_of_eq eC) nC
      exact ⟨m, hm, fun h' same => ⟨.ref D, F, Iv.turned (t' := u.toks) (fun b o hb e => (same.2 b hb).trans e) f0 f1 f3 f4 f5, rfl, qq⟩⟩
    · refine thnF (T.item (X.blk sc G scope ce fp) rfl rfl rfl (hc) i [] t _ F (fun _ _ => False) It (at_rest (Y := X.blk sc G scope ce fp) rfl rfl It nt) stt go) fun r u ⟨uv, er, hu⟩ => ?_
      subst er
      refine thnF hu fun _ t1 ⟨x, F1, I1, r1, y1, st1, n1⟩ => ?_
      have I1' := I1.pinned (at_rest (Y := X.blk sc G scope ce fp) rfl rfl I1 n1) (T.obj _ _ st1)
      refine thnF (pg.run _ t1 _ F1 x uv _ I1' r1 (step x F1 y1)) fun _ t2 ⟨σ2, F2, I2, ew, q2⟩ => ?_
      refine thnF (pt.run _ t2 σ2 F2 _ I2 q2) fun b t3 ⟨F3, I3, q3⟩ => ?_
      have turned : ∀ {t' : Shared} {F' : Hp}, Inv (X.blk sc G scope ce fp) ([] ++ pinsAt fp t1.heap) σ2 F' t' → Nx F' → ∃ m, m < n ∧ Loop m t' := fun {t' F'} I' nx => by
        obtain ⟨m', hm, w'⟩ := hNx F' nx
        have keep : ∀ b ∈ fp, ∀ o, t1.heap.get? b = some o → t'.heap.get? b = some o ∧ F' b = none := fun b hb o e =>
          have z := I'.pin (b, o) (List.mem_append_right _ (List.mem_append_right _ (mem_pinsAt hb e)))
          ⟨z.1, z.2.1⟩
        refine ⟨m', hm, i + 1, F', (I'.unpinned (pins := [])).weak (by rw [← ew, wipe_length]) (fun j v e => ?_), T.keep _ _ _ st1 fun b hb o e => (keep b hb o e).1, fun b hb => ?_, w'⟩
        · rw [← ew] at e
          exact (wipe_some e).1
        · obtain ⟨o, e, _⟩ := T.obj _ _ st1 b hb
          exact (keep b hb o e).2
      cases b
      · exact turned I3 q3
      · refine thnF (pe.run _ t3 σ2 F3 _ I3 q3) fun z t4 ⟨yv, F4, I4, r4, k, S0, n0, ey, hD4, hz4, nx⟩ => ?_
        subst ey
        exact thnF (add_int (X := X.blk sc G scope ce fp) (P := fun _ t5 => ∃ m, m < n ∧ Loop m t5) I4 hD4 hz4 r4 fun t5 I5 => turned I5 nx) fun _ _ z => z
  exact codeAny_compStart_set loop (T.self X.A 0 _ _ _ std loop)
end
end KP

/-! sorted({elt for tg in iter}), elt an int: strictly ascending -/
namespace KP
open PySem PySem.Spec PyProof.Rows L2 PpSet
def insU (i : Int) : List Int → List Int
  | [] => [i]
  | j :: r => if i < j then i :: j :: r else if i = j then j :: r else j :: insU i r
def usort : List Int → List Int
  | [] => []
  | i :: r => insU i (usort r)
theorem mem_insU {i k : Int} : ∀ {l : List Int}, k ∈ insU i l ↔ k = i ∨ k ∈ l
  | [] => by simp [insU]
  | j :: r => by
    unfold insU
    split
    · simp
    · split
      · rename_i h; subst h; simp
      · rw [List.mem_cons, mem_insU, List.mem_cons]
        constructor
        · rintro (h | h | h) <;> simp [h]
        · rintro (h | h | h) <;> simp [h]
theorem asc_insU {i : Int} : ∀ {l : List Int}, l.Pairwise (· < ·) → (insU i l).Pairwise (· < ·)
  | [], _ => by simp [insU]
  | j :: r, h => by
    unfold insU
    have h' := List.pairwise_cons.mp h
    split
    · rename_i hl
      refine List.pairwise_cons.mpr ⟨fun k hk => ?_, h⟩
      rcases List.mem_cons.mp hk with e | hk
      · omega
      · have := h'.1 k hk; omega
    · split
      · exact h
      · refine List.pairwise_cons.mpr ⟨fun k hk => ?_, asc_insU h'.2⟩
        rcases mem_insU.mp hk with e | hk
        · omega
        · exact h'.1 k hk
theorem mem_usort {k : Int} : ∀ {l : List Int}, k ∈ usort l ↔ k ∈ l
  | [] => by simp [usort]
  | i :: r => by unfold usort; rw [mem_insU, mem_usort, List.mem_cons]
theorem asc_usort : ∀ l : List Int, (usort l).Pairwise (· < ·)
  | [] => .nil
  | i :: r => asc_insU (asc_usort r)
theorem asc_ext : ∀ {l m : List Int}, l.Pairwise (· < ·) → m.Pairwise (· < ·) → (∀ k, k ∈ l ↔ k ∈ m) → l = m
  | [], [], _, _, _ => rfl
  | [], b :: m, _, _, h => by have := (h b).2 List.mem_cons_self; simp at this
  | a :: l, [], _, _, h => by have := (h a).1 List.mem_cons_self; simp at this
  | a :: l, b :: m, hl, hm, h => by
    have hl' := List.pairwise_cons.mp hl
    have hm' := List.pairwise_cons.mp hm
    have e : a = b := by
      rcases List.mem_cons.mp ((h a).1 List.mem_cons_self) with e | h1
      · exact e
      · rcases List.mem_cons.mp ((h b).2 List.mem_cons_self) with e | h2
        · exact e.symm
        · have := hm'.1 a h1; have := hl'.1 b h2; omega
    subst e
    rw [asc_ext hl'.2 hm'.2 fun k => ⟨fun hk => ?_, fun hk => ?_⟩]
    · rcases List.mem_cons.mp ((h k).1 (List.mem_cons_of_mem _ hk)) with e | h1
      · have := hl'.1 k hk; omega
      · exact h1
    · rcases List.mem_cons.mp ((h k).2 (List.mem_cons_of_mem _ hk)) with e | h1
      · have := hm'.1 k hk; omega
      · exact h1
def dInt : D → Int
  | .int i => i
  | _ => 0
/-- the elements must be ints -/
def eInt (e : SF) : SF := fun σ M => (e σ M).bind fun y M1 => match y with
  | .int i => .ok (.int i) M1
  | _ => .bad
def fSrtS (vs : List Nat) (fi : SI) (g : SG) (t : SB) (e : SF) : SF := fun σ M => (fi σ M).bind fun iv M1 => if ivLen iv M1 < 64 then
  (lcRun iv g t (eInt e) (wipeD σ vs) M1).nox.bind fun ys M2 => .ok (.lst ((usort (ys.map dInt)).map .int)) M2 else .bad
section
variable {X : Cx} {E : XK}
theorem tScS_of {vs vsg : List Nat} {fi : SI} {g : SG} {t : SB} {e : SF} {σ : L2.St} {H : Hp} {Q : VK} (hv : ∀ i ∈ vsg, i ∈ vs) (h : tE X.K X.mg E (fSrtS vs fi g t e) σ H Q) :
    tScI X.w (tI X.K X.mg E fi) (tG X.K X.mg EF vsg g) (tT X.K X.mg EF t) (tE X.K X.mg EF e) vs σ H (fun v H1 => rSortedSet X.w [v] H1 Q) := by
  obtain ⟨ρ, M, σd, R, en, hp⟩ := h
  refine ⟨ρ, M, σd, R, en, hp.bind.imp fun iv M1 ρ1 H1 x1 R1 hp1 J hJ => ?_⟩
  split at hp1
  · rename_i hlen
    rw [lcRun_eq] at hp1
    have hp2 := nox_bind hp1
    intro p hD
    have en1 := (en.ext R x1).wipe vs
    have R1h := R1.hold (o := SetO X.w p (fun _ => false) 0) hD
    have pr := R1.free hD
    refine ⟨fun i m H => ∃ (ρ2 : Nu) (M2 : Mem) (acc : List Int) (S : Int → Bool) (n : Nat), H p = some (SetO X.w p S n) ∧ p ∉ ρ2.res ∧ Rep X.K (ρ2.hold p) M2 H ∧ EnvD X.K (ρ2.hold p) H (wipeD σd vs) (L2.wipe σ vs) ∧ (∀ k, S k = true ↔ k ∈ acc) ∧ n ≤ acc.length ∧ Ext ρ1 H1 ρ2 (er H p) ∧ acc.length ≤ i ∧ i + m = ivLen iv M1 + 1 ∧
        Post X.K X.mg EF ρ2 (er H p) (lcG iv g t (eInt e) m i (wipeD σd vs) M2) (fun ys M' ρ' H' => Post X.K X.mg E ρ' H' (.ok (.lst ((usort (acc ++ ys.map dInt)).map .int)) M') fun d _ ρ' H' => ∀ v, Den X.K ρ' H' d v → Q v H'),
      ⟨ivLen iv M1 + 1, ρ1, M1, [], fun _ => false, 0, upd_same, pr, R1h, ⟨en1.len, fun i d ed => ?_⟩, fun k => by simp, Nat.le_refl _, by rw [er_upd hD]; exact .refl, Nat.zero_le _, by omega, by rw [er_upd hD]; exact hp2⟩, ?_⟩
    · obtain ⟨v, ev, r⟩ := en1.get i d ed
      exact ⟨v, ev, r.hold hD⟩
    rintro i m H2 ⟨ρ2, M2, acc, S, n, hus, pr2, R2, en2, hS, hn, x2, hai, him, hp3⟩
    have pn : p ∉ ρ2.num := (R2.held p List.mem_cons_self).2
    have xR := ExtR.of_hold x2 hus hD
    cases m with
    | zero => exact (show False from hp3).elim
    | succ m =>
      unfold lcG at hp3
      split at hp3
      · exact (show False from hp3).elim
      · rename_i eiv
        refine .inl ⟨ivAt_none hJ xR R2 eiv, p, S, n, rfl, hus, by omega, fun ns q h1 h2 h3 h4 => ?_⟩
        have hp4 := Post.here hp3 (R2.erE hus pr2)
        rw [List.map_nil, List.append_nil] at hp4
        have xl : Ext ρ2 (er H2 p) ρ2 H2 := Ext.unhold .refl hus
        have es : ns = usort acc := asc_ext h1 (asc_usort _) fun k => by rw [h2, hS, mem_usort]
        rw [es]
        exact Post.lstTmp (ρ := ρ2) (R2.freeR rfl fun b hb => List.mem_cons_of_mem _ hb) (dens_ints _) (hp4.from xl) q h4
      · rename_i x eiv
        obtain ⟨hgo, hyl⟩ := ivAt_some hJ xR R2 eiv
        refine .inr ⟨hgo, fun H => ∃ (ρ2 : Nu) (M2 : Mem) (acc : List Int) (S : Int → Bool) (n : Nat), H p = some (SetO X.w p S n) ∧ p ∉ ρ2.res ∧ Rep X.K (ρ2.hold p) M2 H ∧ EnvD X.K (ρ2.hold p) H (wipeD σd vs) (L2.wipe σ vs) ∧ (∀ k, S k = true ↔ k ∈ acc) ∧ n ≤ acc.length ∧ Ext ρ1 H1 ρ2 (er H p) ∧ acc.length ≤ i + 1 ∧
            Post X.K X.mg EF ρ2 (er H p) (lcG iv g t (eInt e) m (i + 1) (wipeD σd vs) M2) (fun ys M' ρ' H' => Post X.K X.mg E ρ' H' (.ok (.lst ((usort (acc ++ ys.map dInt)).map .int)) M') fun d _ ρ' H' => ∀ v, Den X.K ρ' H' d v → Q v H'),
          fun H' ⟨ρ3, M3, acc3, S3, n3, a1, a2, a3, a4, a5, a6, a7, a8, a9⟩ => ⟨m, Nat.lt_succ_self m, ρ3, M3, acc3, S3, n3, a1, a2, a3, a4, a5, a6, a7, a8, by omega, a9⟩, fun w H3 y => ?_⟩
        obtain ⟨x3, R3, rx⟩ := hyl w H3 y
        have hus3 : H3 p = some (SetO X.w p S n) := x3.keep p _ hus (.inl pn)
        have x3e : Ext ρ2 (er H2 p) ρ2 (er H3 p) := (x3.er (by rw [hus]; simp)).2
        have en3 := en2.ext R2 x3
        have hp4 := Post.holdE hus3 pr2 pn (Post.from hp3 x3e).bind
        refine ⟨ρ2.hold p, M2, wipeD σd vs, x, R3, en3, rx, hp4.imp fun σ4 M4 ρ4h H4 x4 R4 q4 σ' en' off => ?_⟩
        obtain ⟨ρ4, e4, pr4, hus4, x4e, hp5⟩ := q4
        subst e4
        refine ⟨(wipe_off (off.sub hv)).trans wipe_wipe, ?_⟩
        have pn4 : p ∉ ρ4.num := (R4.held p List.mem_cons_self).2
        refine ⟨ρ4.hold p, M4, σ4, R4, en', (Post.holdE hus4 pr4 pn4 hp5.bind).imp fun b M5 ρ5h H5 x5 R5 q5 => ?_⟩
        obtain ⟨ρ5, e5, pr5, hus5, x5e, hp6⟩ := q5
        subst e5
        have pn5 : p ∉ ρ5.num := (R5.held p List.mem_cons_self).2
        have en5 := (en3.ext R3 x4).ext R4 x5
        have x15 := ((x2.trans x3e).trans x4e).trans x5e
        cases b with
        | false =>
          rw [if_neg Bool.false_ne_true]
          exact ⟨ρ5, M5, acc, S, n, hus5, pr5, R5, en5, hS, hn, x15, by omega, hp6⟩
        | true =>
          rw [if_pos rfl]
          have hp6' := hp6.bind
          unfold eInt at hp6'
          refine ⟨ρ5.hold p, M5, σ4, R5, en'.ext R4 x5, (Post.holdE hus5 pr5 pn5 hp6'.bind).imp fun yd M6 ρ6h H6 x6 R6 q6 yv ry => ?_⟩
          obtain ⟨ρ6, e6, pr6, hus6, x6e, hp7⟩ := q6
          subst e6
          have en6 := en5.ext R5 x6
          cases ry with
          | int c =>
            have hp7 := Post.here hp7 (R6.erE hus6 pr6)
            refine ⟨c, S, n, rfl, hus6, by have : scanBound = scanBound := rfl; have h64 : (65 : Nat) < scanBound := by decide
                                           omega, ρ6, M6, acc ++ [c], setPlus S c, setSize S n c, upd_same, pr6, R6.heldWE List.mem_cons_self hus6, ⟨en6.len, fun i d ed => ?_⟩, fun k => ?_, ?_, by rw [er_updw]; exact x15.trans x6e, by simp; omega, ?_⟩
            · obtain ⟨v, ev, r⟩ := en6.get i d ed
              exact ⟨v, ev, r.heldE List.mem_cons_self hus6⟩
            · unfold setPlus
              simp [hS]
            · unfold setSize
              rw [List.length_append]
              split <;> simp <;> omega
            · rw [er_updw]
              refine hp7.bind.imp fun ys M7 ρ7 H7 x7 R7 q7 => ?_
              rw [List.append_assoc]
              exact Post.here q7 R7
          | _ => exact (show False from hp7).elim
  · exact hp1.elim
theorem je_srtS {x : Str} {p pos2 : Pos} {vsg : List Nat} {elt tg iter : Expr} {ifs : List Expr} {scope : Scope} {own : List (Str × Nat)} {pos : Pos} {fi : SI} {g : SG} {t : SB} {e : SF} (hx : x = "sorted") (hc : X.calm = true) (hN : X.N.Nodup) (hgl : Gl X x) (hm : X.mg x = none) (hi : JI X E tg iter fi) (ok : BlkOk X.N X.env.scope scope own) (hv : ∀ i ∈ vsg, i ∈ own.map (·.2))
    (hg : ∀ (s : Shared) (H : Hp) (C : Addr) (cl : List (Str × Addr)) (fp : List Addr), JG (X.blk s H scope (compEnvC scope cl C X.env) fp) EF vsg tg g) (ht : ∀ (s : Shared) (H : Hp) (C : Addr) (cl : List (Str × Addr)) (fp : List Addr), PTs (X.blk s H scope (compEnvC scope cl C X.env) fp) ifs (tT X.K X.mg EF t))
    (he : ∀ (s : Shared) (H : Hp) (C : Addr) (cl : List (Str × Addr)) (fp : List Addr), JE (X.blk s H scope (compEnvC scope cl C X.env) fp) EF elt e) (hs : ∀ x, foldedSetIterable iter X.env x = pure x := by intro _; rfl)
    (hse : starEach [.SetComp elt [⟨tg, iter, ifs, 0⟩] scope pos] X.env = (false, eval (.SetComp elt [⟨tg, iter, ifs, 0⟩] scope pos) X.env) :: starEach [] X.env := by rfl) :
    JE X E (.Call (.Name x p) [.SetComp elt [⟨tg, iter, ifs, 0⟩] scope pos] [] pos2) (fSrtS (own.map (·.2)) fi g t e) := by
  subst hx
  exact PE.weak (pe_callB (id := "sorted") (cr_sortedSet hc) hgl hm (by decide +kernel) (pa_cons (pe_scI hc hN hi ok hg ht he hs) pa_nil hse) (by decide +kernel) (by decide +kernel) hse rfl) fun σ H Q h => tScS_of hv h
variable {N : List Str} {sc : Scope} {ks : List (Option NameKind)} {own : List Nat} {k : Nat}
theorem csrtS (C : Ctx X E N sc ks own k) (ow : List (Str × Nat)) (ks' : List (Option NameKind)) {vsg : List Nat} {elt tg iter : Expr} {ifs : List Expr} {scope : Scope} {pos p pos2 : Pos} {fi : SI} {g : SG} {t : SB} {e : SF} (hm : X.mg "sorted" = none) (hi : JI X E tg iter fi) (hB : Blk X N sc scope ks' ow k vsg tg elt ifs g t e)
    (hgl : sc.names.lookup (Str.ofString "sorted") = some .globalImplicit := by decide +kernel) (ok : blkAll N sc scope ks' ow = true := by decide +kernel) (hv : ∀ i ∈ vsg, i ∈ ow.map (·.2) := by decide) (hs : ∀ x, foldedSetIterable iter X.env x = pure x := by intro _; rfl)
    (hse : starEach [.SetComp elt [⟨tg, iter, ifs, 0⟩] scope pos] X.env = (false, eval (.SetComp elt [⟨tg, iter, ifs, 0⟩] scope pos) X.env) :: starEach [] X.env := by rfl) :
    JE X E (.Call (.Name "sorted" p) [.SetComp elt [⟨tg, iter, ifs, 0⟩] scope pos] [] pos2) (fSrtS (ow.map (·.2)) fi g t e) := by
  obtain ⟨o1, o2, o3, o4⟩ := blkAll_ok ok
  have hb := fun s H Cc cl fp => hB s H Cc cl fp (C.blk o4 o2 o3 s H Cc cl fp)
  exact je_srtS rfl C.calm (by rw [C.hN]; exact C.nd) (C.gl hgl) hm hi (by rw [C.hN, C.hsc]; exact o1) hv (fun s H Cc cl fp => (hb s H Cc cl fp).1) (fun s H Cc cl fp => (hb s H Cc cl fp).2.1) (fun s H Cc cl fp => (hb s H Cc cl fp).2.2) hs hse
end
end KP

/-! min(xs, default=d) -/
namespace KP
open PySem PySem.Spec PyProof.Rows L2
def alikeB (ps : List PyData) : Bool := (ps.all fun p => ps.all fun q => PySem.W.alike p q) && (ps.all fun p => match p with
  | .none => false
  | _ => true) && ps.all SeqAt.shaped
def minAt (ps : List PyData) : Nat := argBest (fun i j => PySem.W.dataLt (ps.getD i .none) (ps.getD j .none)) (ps.length - 1)
def minO (xs : List D) (d : D) (M : Mem) : Option D := match xs with
  | [] => some d
  | xs => match mapO (pdN M 60) xs with
    | some ps => if alikeB ps = true then xs[minAt ps]? else none
    | none => none
def cMinDf : List D → List D → Mem → Out D := fun ds zs M => match ds, zs with
  | [x], [d] => match lsO x M with
    | some xs => match minO xs d M with
      | some y => .ok y M
      | none => .bad
    | none => .bad
  | _, _ => .bad
def rCK (K : PySem.W.Frag) (mg : Str → Option Value) (E : XK) (g : List D → List D → Mem → Out D) : List V → List V → Hp → VK → Prop := fun vs ws H Q => ∃ ρ M ds es, Rep K ρ M H ∧ Dens K ρ H ds vs ∧ Dens K ρ H es ws ∧
  Post K mg E ρ H (g ds es M) fun d _ ρ' H' => ∀ v, Den K ρ' H' d v → Q v H'
def fCallKw (g : List D → List D → Mem → Out D) (fa fk : SFs) : SF := fun σ M => (fa σ M).bind fun ds M1 => (fk σ M1).bind fun es M2 => g ds es M2
section
variable {X : Cx} {E : XK}
theorem reads_all {pins : List (Addr × Obj)} {s : Shared} {σ : L2.St} {H : Hp} (I : Inv X pins σ H s) : ∀ {vs : List V} {ps : List PyData} {us : List Value}, DpAll X.K H vs ps → Vals vs us → ∃ as, ReadsAll s.heap us ps as
  | _, _, _, .nil, .nil => ⟨_, .nil⟩
  | _, _, _, .cons r t, .cons q u => by
    obtain ⟨as, h1⟩ := Dp.reads I _ _ _ r q
    obtain ⟨bs, h2⟩ := reads_all I t u
    exact ⟨_, .cons h1 h2⟩
theorem vals_at : ∀ {vs : List V} {us : List Value} {i : Nat} {u : Value}, Vals vs us → us[i]? = some u → ∃ v, vs[i]? = some v ∧ RelV v u
  | _, _, i, u, .nil, h => by simp at h
  | _, _, 0, u, .cons r t, h => by cases h; exact ⟨_, rfl, r⟩
  | _, _, i + 1, u, .cons r t, h => by
    rw [List.getElem?_cons_succ] at h ⊢
    exact vals_at t h
theorem depth_all_le : ∀ {ps : List PyData} {n : Nat}, (∀ p ∈ ps, p.depth ≤ n) → PyData.depthAll ps ≤ n
  | [], n, _ => Nat.zero_le _
  | p :: ps, n, h => by
    unfold PyData.depthAll
    have h1 := h p List.mem_cons_self
    have h2 := depth_all_le fun q hq => h q (List.mem_cons_of_mem _ hq)
    omega
theorem oc_minDf (hu : X.A.units + 100 < cLine) (hc : X.calm = true) : CallRK X (.builtin "min") [Str.ofString "default"] (rCK X.K X.mg E cMinDf) := by
  intro pins s σ H vs zs us ws Q I r rz h
  obtain ⟨ρ, M, ds, es, R, rd, re, hp⟩ := h
  unfold cMinDf at hp
  split at hp
  · rename_i x d
    obtain ⟨v, rfl, r1⟩ := dens1 rd
    obtain ⟨vd, rfl, r2⟩ := dens1 re
    obtain ⟨wd, rfl, e1⟩ := vals1 rz
    split at hp
    · rename_i xs hx
      split at hp
      · rename_i y hy
        obtain ⟨a, xv, rfl, hs, t⟩ := lsO_some R r1 hx
        rw [Vals.ref1 r]
        obtain ⟨its, rv, hl, hz⟩ := I.list hs
        have hl' : s.heap.IsList a its.toArray := hl.isList
        show wpAny _ _ (call (.builtin "min") [.ref a] [(Str.ofString "default", wd)]) _ _ s
        unfold minO at hy
        split at hy
        · cases hy
          cases t
          cases rv
          refine call_min_walkD (PySem.W.iter_listW (A := X.A.in1) (I.ok.hd hc) hl' fun s₂ e W st hfp hw hk => ?_)
          refine ⟨_, _, _, _, _, _, _, s.heap, fun _ _ => false, rfl, W, st, hfp, hw, hk, fun hz s' m => ?_, fun hp => ?_⟩
          · obtain ⟨h', tk, rfl, hk'⟩ := PySem.W.moved_old e rfl m
            exact ⟨vd, H, I.kept hk', e1, hp.here R _ r2⟩
          · exact absurd hp (Nat.lt_irrefl 0)
        · rename_i hne
          split at hy
          · rename_i ps hps
            split at hy
            · rename_i hal
              have dp := mapO_dp (fun d v p r e => pdN_dp R _ _ _ _ r e) t hps
              obtain ⟨as, hr⟩ := reads_all I dp rv
              have hr' : ReadsAll s.heap its.toArray.toList ps as := by simpa using hr
              unfold alikeB at hal
              simp only [Bool.and_eq_true, List.all_eq_true] at hal
              obtain ⟨⟨k1, k2⟩, k3⟩ := hal
              have ha : PySem.W.AlikeAll ps := ⟨fun p hp q hq => k1 p hp q hq, fun p hp e => by have := k2 p hp; rw [e] at this; cases this⟩
              have hd : PyData.depthAll ps ≤ 64 := depth_all_le fun p hp => by
                have := SeqAt.depth_of_shaped (k3 p hp)
                omega
              have l1 : its.length = ps.length := by rw [← rv.length, ← t.length, mapO_len hps]
              refine call_min_walkD (PySem.W.iter_listW (A := X.A.in1) (I.ok.hd hc) hl' fun s₂ e W st hfp hw hk => ?_)
              refine ⟨_, _, _, _, _, _, _, s.heap, fun i j => PySem.W.dataLt (ps.getD i .none) (ps.getD j .none), rfl, W, st, hfp, hw, hk, fun hz s' m => ?_, fun hp1 => ⟨PySem.W.cmpIn_lt (A := X.A.in1) hr' ha (by show X.A.units + 1 + _ < _; omega), fun v s' hP m => ?_⟩⟩
              · exfalso
                have : its.length = 0 := by simpa using hz
                rw [← rv.length, ← t.length] at this
                exact hne (List.eq_nil_of_length_eq_zero this)
              · obtain ⟨h', tk, rfl, hk'⟩ := PySem.W.moved_old e rfl m
                have hP' : its.toArray[argBest (fun i j => PySem.W.dataLt (ps.getD i .none) (ps.getD j .none)) (its.toArray.size - 1)]? = some v := hP
                rw [List.size_toArray, l1, List.getElem?_toArray] at hP'
                obtain ⟨w, hw1, hw2⟩ := vals_at rv hP'
                exact ⟨w, H, I.kept hk', hw2, hp.here R _ (t.two hy hw1)⟩
            · cases hy
          · cases hy
      · exact hp.elim
    · exact hp.elim
  · exact hp.elim
theorem je_callBK {x : Str} {id : String} {ks : List Str} {e : Expr} {es : List Expr} {kws : List Keyword} {g : List D → List D → Mem → Out D} {fa fk : SFs} {p pos : Pos} (hc : CallRK X (.builtin id) ks (rCK X.K X.mg E g)) (hg : Gl X x) (hm : X.mg x = none) (hv : bootBuiltins x = some (.builtin id)) (ha : JA X E (e :: es) fa) (hk : JK X E kws fk) (hn : x ≠ "__name__" := by decide) (hdb : (x == ("__debug__" : Str)) = false := by decide)
    (he : backTo pos (starEach (e :: es) X.env) = (false, eval e X.env) :: backTo pos (starEach es X.env) := by rfl) (hpl : (backTo pos (starEach (e :: es) X.env)).any (·.1) = false := by rfl)
    (hall : (backToKw pos (keywordEach kws X.env)).all (·.1.isSome) = true := by rfl) (hnone : (backToKw pos (keywordEach kws X.env)).any (·.1.isNone) = false := by rfl) (hks : (backToKw pos (keywordEach kws X.env)).filterMap (·.1) = ks := by rfl) :
    JE X E (.Call (.Name x p) (e :: es) kws pos) (fCallKw g fa fk) :=
  PE.weak (pe_callBK hc hg hm hv ha hk hn hdb he hpl hall hnone hks) fun σ H Q ⟨ρ, M, σd, R, en, hp⟩ =>
    ⟨ρ, M, σd, R, en, hp.bind.imp fun ds M1 ρ1 H1 x1 R1 hp1 vs rvs => ⟨ρ1, M1, σd, R1, en.ext R x1, hp1.bind.imp fun zs M2 ρ2 H2 x2 R2 hp2 ws rws => ⟨ρ2, M2, ds, zs, R2, rvs.ext R1 x2, rws, hp2⟩⟩⟩
variable {N : List Str} {sc : Scope} {ks : List (Option NameKind)} {own : List Nat} {k : Nat}
theorem cbik (C : Ctx X E N sc ks own k) {x : Str} {id : String} {kn : List Str} {e : Expr} {es : List Expr} {kws : List Keyword} {g : List D → List D → Mem → Out D} {fa fk : SFs} {p pos : Pos} (hc : CallRK X (.builtin id) kn (rCK X.K X.mg E g)) (hm : X.mg x = none) (hv : bootBuiltins x = some (.builtin id)) (ha : JA X E (e :: es) fa) (hk : JK X E kws fk) (hg : sc.names.lookup x = some .globalImplicit := by decide +kernel)
    (hn : x ≠ "__name__" := by decide +kernel) (hdb : (x == ("__debug__" : Str)) = false := by decide +kernel)
    (he : backTo pos (starEach (e :: es) X.env) = (false, eval e X.env) :: backTo pos (starEach es X.env) := by rfl) (hpl : (backTo pos (starEach (e :: es) X.env)).any (·.1) = false := by rfl)
    (hall : (backToKw pos (keywordEach kws X.env)).all (·.1.isSome) = true := by rfl) (hnone : (backToKw pos (keywordEach kws X.env)).any (·.1.isNone) = false := by rfl) (hks : (backToKw pos (keywordEach kws X.env)).filterMap (·.1) = kn := by rfl) :
    JE X E (.Call (.Name x p) (e :: es) kws pos) (fCallKw g fa fk) := je_callBK hc (C.gl hg) hm hv ha hk hn hdb he hpl hall hnone hks
end
end KP

/-! a list that is made for a name that blocks use -/
namespace KP
open PySem PySem.Spec PyProof.Rows L2
theorem sw_cell {env : Env} {elt : Expr} {gens : List Comprehension} {scope : Scope} {pos py : Pos} {y : Str} {line : Nat} (hy : env.scope.names.lookup y = some .cell) : swapsWith (.ListComp elt gens scope pos) (some (.Name y py)) line env = pure false := by
  have h : (env.kindOf y == some .local) = false := by unfold Env.kindOf; rw [hy]; rfl
  show pure (env.blockKind == .function && env.kindOf y == some .local && py.line == pos.line && !(scope.names.any fun (n, k) => n == y && (k == .local || k == .cell))) = _
  rw [h, Bool.and_false]; rfl
section
variable {X : Cx} {E : XK} {N : List Str} {sc : Scope} {ks : List (Option NameKind)} {own : List Nat} {k : Nat}
theorem csetF (C : Ctx X E N sc ks own k) (i : Nat) {x : Str} {elt : Expr} {gens : List Comprehension} {scope : Scope} {p : Pos} {f : SF} {pos pos' : Pos} (he : JE X E (.ListComp elt gens scope p) f) (h : N[i]? = some x := by rfl) (hk : ks[i]? = some (some .cell) := by rfl) (ho : i ∈ own := by decide) :
    JS X E (.Assign [.Name x pos'] (.ListComp elt gens scope p) pos) (sAsg f (gSet i)) :=
  cset C i he h ho (sw_cell (by rw [C.hsc]; have := C.kind h; rw [hk] at this; exact (Option.some.inj this).symm))
end
end KP

/-! > of tuples of data -/
namespace KP
open PySem PySem.Spec PyProof.Rows L2
def notNone (p : PyData) : Bool := match p with
  | .none => false
  | _ => true
def gtD (x y : D) (M : Mem) : Option Bool := match pdN M 60 x with
  | some p => match pdN M 60 y with
    | some q => if (PySem.W.alike p q && notNone p && SeqAt.shaped p) = true then some (PySem.W.dataLt q p) else none
    | none => none
  | none => none
def dGtT := pure2 fun x y M => bO (gtD x y M)
section
variable {X : Cx} {E : XK}
theorem od_gtT (hu : X.A.units + 65 < cLine) : OpR X (compareOp .Gt) (rD X.K X.mg E dGtT) := by
  intro pins s σ H x y v u Q I rx ry h
  obtain ⟨ρ, M, dx, dy, R, r1, r2, hp⟩ := h
  obtain ⟨d, e0, hp⟩ := pure2_post hp
  obtain ⟨b, e, hd⟩ := bO_some e0
  subst hd
  have hq := hp.here R _ (.bl b)
  unfold gtD at e
  split at e
  · rename_i p ep
    split at e
    · rename_i q eq
      split at e
      · rename_i hc
        cases e
        rw [Bool.and_eq_true, Bool.and_eq_true] at hc
        obtain ⟨⟨h1, h2⟩, h3⟩ := hc
        obtain ⟨as1, rd1⟩ := Dp.reads I p x v (pdN_dp R _ _ _ _ r1 ep) rx
        obtain ⟨as2, rd2⟩ := Dp.reads I q y u (pdN_dp R _ _ _ _ r2 eq) ry
        have hd := SeqAt.depth_of_shaped h3
        have hn : p ≠ .none := fun z => by rw [z] at h2; cases h2
        refine PySem.W.rcGt_alike _ _ X.A s v u _ _ rd1 rd2 h1 hn ?_ X.prog X.w X.xe _ ⟨.bl _, H, I, rfl, hq⟩
        have := Nat.min_le_left p.depth q.depth
        omega
      · cases e
    · cases e
  · cases e
end
end KP

/-! a, b, .. = a list -/
namespace KP
open PySem PySem.Spec PyProof.Rows L2
def gTupL (n : Nat) (gs : List D → SD → Mem → Out SD) : SG := fun d σ M => match d with
  | .lst xs => if xs.length = n then gs xs σ M else .bad
  | _ => .bad
section
variable {X : Cx} {E : XK}
theorem jg_tupL {vs : List Nat} {es : List Expr} {k : Nat} {gs : List D → SD → Mem → Out SD} {n : Nat} {pos : Pos} (hc : X.calm = true) (h : JGs X E vs es gs)
    (hn : (assignEach es X.env).length = n := by rfl) (hst : (assignEach es X.env).findIdx? (·.1) = none := by rfl) : JG X E vs (.Tuple es k pos) (gTupL n gs) := by
  refine PG.weak (pg_lst hc h hn hst) fun v σ H Q ⟨ρ, M, σd, d, R, en, rd, hp⟩ => ?_
  cases rd with
  | lst h1 h2 hs t =>
    unfold gTupL at hp
    dsimp only at hp
    split at hp
    · rename_i hl
      exact ⟨_, _, rfl, .of hs, by rw [← t.length]; exact hl, ρ, M, σd, _, R, en, t, hp⟩
    · exact hp.elim
  | _ => exact hp.elim
variable {N : List Str} {sc : Scope} {ks : List (Option NameKind)} {own : List Nat} {k : Nat}
theorem gtupL (C : Ctx X E N sc ks own k) {vs : List Nat} {es : List Expr} {kk : Nat} {gs : List D → SD → Mem → Out SD} {n : Nat} {pos : Pos} (h : JGs X E vs es gs) (hn : (assignEach es X.env).length = n := by rfl) (hst : (assignEach es X.env).findIdx? (·.1) = none := by rfl) : JG X E vs (.Tuple es kk pos) (gTupL n gs) :=
  jg_tupL C.calm h hn hst
end
end KP

/-! list(d.values()) -/
namespace KP
open PySem PySem.Spec PyProof.Rows L2
section
variable {X : Cx} {E : XK} {o : Expr} {p pos apos mpos : Pos} {td : TE}
def tLVals (td : TE) : TE := fun σ H Q => td σ H fun x H1 => ∃ a kvs, x = V.ref a ∧ H1 a = some (.dK kvs) ∧ ∀ q, H1 q = none → Q (.ref q) (upd H1 q (.lst (kvs.map (·.2))))
theorem pe_listVals (hc : X.calm = true) (hg : Gl X "list") (hm : X.mg "list" = none) (hd : PE X o td) (hbase : attributeBase o "values" X.env (eval o X.env) = eval o X.env := by rfl) (hline : (apos.endLine == mpos.line) = true := by rfl)
    (hse : starEach [Expr.Call (.Attribute o "values" apos) [] [] mpos] X.env = [(false, eval (Expr.Call (.Attribute o "values" apos) [] [] mpos) X.env)] := by rfl) :
    PE X (.Call (.Name "list" p) [.Call (.Attribute o "values" apos) [] [] mpos] [] pos) (tLVals td) := by
  refine ⟨fun pins s σ H Q I h => ?_⟩
  refine Call_ (ld_blt I hg hm boot_list ?_)
  rw [hse]
  refine PySem.callWith_type1 (wpAny_Call_method0_late hbase hline (thn (hd.run pins s σ H _ I h) fun v s1 ⟨x, H1, I1, r1, a, kvs, ex, ha, q⟩ => ?_))
  subst ex
  obtain rfl : v = Value.ref a := r1
  obtain ⟨hz, hsys, vs, rel, dof⟩ := dk_of I1.hok ha
  obtain ⟨ep, dat⟩ := dof.dictAt
  have dat' := dat
  obtain ⟨ob, es, ho, ex, hdat, hko, hpr, hnd⟩ := dat'
  refine ⟨"dict", "dict.values", F.plainAttrs_dict, F.slot_dict_values, F.type_dict_values, ⟨ob, ho, ex.1⟩, fun b e => ?_, Calls.callWith_builtin rfl (PySem.evalArgs_none ?_)⟩
  · cases e
    exact ⟨ob, ho, ex.2.1⟩
  refine call_meetsIn F.slot_dict_values ⟨ob, ho, ex.1⟩ F.entry_dict_values (F.args_dict_values_1 _) (meets_dict_values (mixKind X.prog X.w) a hsys) ⟨⟨vs, dof⟩, ?_⟩
  have k1 : ∀ b u, s1.heap.get? b = some u → (s1.heap.push { cls := .type "dict_values", data := .fields #[.ref a] }).get? b = some u := fun b u e => Heap.get?_push_of_some _ e
  have dat1 : (s1.heap.push { cls := .type "dict_values", data := .fields #[.ref a] }).DictAt (mixKind X.prog X.w) a vs ep := dat.keep k1
  have hl : kvs.length = vs.length := Paired.length rel
  have I2 : Inv X pins σ H1 { s1 with heap := s1.heap.push { cls := .type "dict_values", data := .fields #[.ref a] } } := I1.kept (t' := s1.toks) fun b ob q => Heap.get?_push_of_some _ q
  refine PySem.W.kdl_call (PySem.W.kdl_values (knd := mixKind X.prog X.w) (kvs := vs) (ep := ep)) (I2.ok.hd hc) ⟨⟨_, Heap.get?_push_size _ rfl, rfl, rfl⟩, dat1⟩ (by rw [← hl]; exact hz) fun h' tk acc' c' hkeep hS hacc => ?_
  refine ⟨.ref _, upd H1 _ (.lst (kvs.map (·.2))), I2.laid hkeep (Nat.le_refl _) (show ObjOk X.prog X.w _ _ _ (.lst (kvs.map (·.2))) from ⟨?_, acc'.toList, c', ?_, ?_⟩), rfl, q _ (I2.hok.fresh (Nat.le_refl _))⟩
  · rw [List.length_map]; exact hz
  · have el : acc'.toList.length = acc'.size := by simp
    refine vals_of_at (by rw [List.length_map, el, hacc.1, hl]) fun j x w h1 h2 => ?_
    obtain ⟨k, hk⟩ := hacc.2 j w (by rw [← Array.getElem?_toList]; exact h2)
    obtain ⟨y, h3, h4⟩ := KV.at' rel hk
    rw [List.getElem?_map, h3] at h1
    cases h1
    exact h4
  · rw [Array.toArray_toList]; exact hS
def fLVals (f : SF) : SF := fun σ M => (f σ M).bind fun x M1 => match dctO x M1 with
  | some (_, kvs) => .ok (.lst (kvs.map (·.2))) M1
  | none => .bad
theorem je_listVals {f : SF} (hc : X.calm = true) (hg : Gl X "list") (hm : X.mg "list" = none) (hd : JE X E o f) (hbase : attributeBase o "values" X.env (eval o X.env) = eval o X.env := by rfl) (hline : (apos.endLine == mpos.line) = true := by rfl)
    (hse : starEach [Expr.Call (.Attribute o "values" apos) [] [] mpos] X.env = [(false, eval (Expr.Call (.Attribute o "values" apos) [] [] mpos) X.env)] := by rfl) :
    JE X E (.Call (.Name "list" p) [.Call (.Attribute o "values" apos) [] [] mpos] [] pos) (fLVals f) := by
  refine PE.weak (pe_listVals hc hg hm hd hbase hline hse) fun σ H Q ⟨ρ, M, σd, R, en, hp⟩ => ⟨ρ, M, σd, R, en, hp.bind.imp fun x M1 ρ1 H1 x1 R1 hp1 v r1 => ?_⟩
  split at hp1
  · rename_i n kvs hk
    obtain ⟨a, es, rfl, hr, h3, t, hM⟩ := dctO_some R1 r1 hk
    exact ⟨a, es, rfl, h3, hp1.lstTmp R1 t.2⟩
  · exact hp1.elim
variable {N : List Str} {sc : Scope} {ks : List (Option NameKind)} {own : List Nat} {k : Nat}
theorem clistVals {f : SF} (C : Ctx X E N sc ks own k) (hm : X.mg "list" = none) (hd : JE X E o f) (hgl : sc.names.lookup (Str.ofString "list") = some .globalImplicit := by decide +kernel) (hbase : attributeBase o "values" X.env (eval o X.env) = eval o X.env := by rfl) (hline : (apos.endLine == mpos.line) = true := by rfl)
    (hse : starEach [Expr.Call (.Attribute o "values" apos) [] [] mpos] X.env = [(false, eval (Expr.Call (.Attribute o "values" apos) [] [] mpos) X.env)] := by rfl) :
    JE X E (.Call (.Name "list" p) [.Call (.Attribute o "values" apos) [] [] mpos] [] pos) (fLVals f) := je_listVals C.calm (C.gl hgl) hm hd hbase hline hse
end
end KP

/-! comprehensions with two clauses, t1 = t2 = e -/
namespace KP
open PySem PySem.Spec PyProof.Rows L2
/-- a numbered list grows by a comprehension with two clauses -/
def lc2N (iv : IV) (g : SG) (t : SB) (vs1 : List Nat) (fi1 : SI) (g1 : SG) (t1 : SB) (e : SF) (n : Nat) : Nat → Nat → SD → Mem → Out Unit
  | 0, _, _, _ => .bad
  | k + 1, i, σ, M => match ivAt iv i M with
    | none => .bad
    | some none => .ok () M
    | some (some x) => (g x σ M).bind fun σ1 M1 => (t σ1 M1).bind fun b M2 => match b with
      | true => (fi1 σ1 M2).bind fun iv1 M3 => (lcN iv1 g1 t1 e n (ivLen iv1 M3 + 1) 0 (wipeD σ1 vs1) M3).bind fun _ M4 => lc2N iv g t vs1 fi1 g1 t1 e n k (i + 1) σ M4
      | false => lc2N iv g t vs1 fi1 g1 t1 e n k (i + 1) σ M2
def fLc2N (vs vs1 : List Nat) (fi : SI) (g : SG) (t : SB) (fi1 : SI) (g1 : SG) (t1 : SB) (e : SF) : SF := fun σ M => (fi σ M).bind fun iv M1 => (lc2N iv g t vs1 fi1 g1 t1 e M1.length (ivLen iv M1 + 1) 0 (wipeD σ vs) (M1 ++ [.lst []])).nox.bind fun _ M2 => .ok (.ref M1.length) M2
section
variable {X : Cx} {E : XK}
theorem tLc2N_of {vs vs1 vsg vsg1 : List Nat} {fi fi1 : SI} {g g1 : SG} {t t1 : SB} {e : SF} {σ : L2.St} {H : Hp} {Q : VK} (hv : ∀ i ∈ vsg, i ∈ vs) (hv1 : ∀ i ∈ vsg1, i ∈ vs1) (h : tE X.K X.mg E (fLc2N vs vs1 fi g t fi1 g1 t1 e) σ H Q) :
    tLc2 (tI X.K X.mg E fi) (tG X.K X.mg EF vsg g) (tT X.K X.mg EF t) (tI X.K X.mg EF fi1) (tG X.K X.mg EF vsg1 g1) (tT X.K X.mg EF t1) (tE X.K X.mg EF e) vs vs1 σ H Q := by
  obtain ⟨ρ, M, σd, R, en, hp⟩ := h
  refine ⟨ρ, M, σd, R, en, hp.bind.imp fun iv M1 ρ1 H1 x1 R1 hp1 J hJ => ?_⟩
  have hp2 := nox_bind hp1
  intro p hD
  have en1 := (en.ext R x1).wipe vs
  have xn : Ext ρ1 H1 (ρ1.push p) (upd H1 p (.lst [])) := .new hD
  have Rn := R1.new (o := .lst []) (u := .lst []) hD ⟨[], upd_same, .nil⟩
  have ixp : (ρ1.push p).num[M1.length]? = some p := by simp [Nu.push, ← R1.len]
  refine ⟨fun i m H => ∃ ρ2 M2, Rep X.K ρ2 M2 H ∧ EnvD X.K ρ2 H (wipeD σd vs) (L2.wipe σ vs) ∧ Ext (ρ1.push p) (upd H1 p (.lst [])) ρ2 H ∧
      Post X.K X.mg EF ρ2 H (lc2N iv g t vs1 fi1 g1 t1 e M1.length m i (wipeD σd vs) M2) (fun _ M' ρ' H' => Post X.K X.mg E ρ' H' (.ok (.ref M1.length) M') fun d _ ρ' H' => ∀ v, Den X.K ρ' H' d v → Q v H'),
    ⟨ivLen iv M1 + 1, ρ1.push p, M1 ++ [.lst []], Rn, en1.ext R1 xn, .refl, Post.from hp2 xn⟩, ?_⟩
  rintro i m H2 ⟨ρ2, M2, R2, en2, x2, hp3⟩
  have xR := (xn.trans x2).toR
  cases m with
  | zero => exact (show False from hp3).elim
  | succ m =>
    unfold lc2N at hp3
    split at hp3
    · exact (show False from hp3).elim
    · rename_i eiv
      exact .inl ⟨ivAt_none hJ xR R2 eiv, (Post.here hp3 R2).here R2 (.ref p) (.ref (x2.get ixp))⟩
    · rename_i x eiv
      obtain ⟨hgo, hyl⟩ := ivAt_some hJ xR R2 eiv
      refine .inr ⟨hgo, fun H => ∃ ρ2 M2, Rep X.K ρ2 M2 H ∧ EnvD X.K ρ2 H (wipeD σd vs) (L2.wipe σ vs) ∧ Ext (ρ1.push p) (upd H1 p (.lst [])) ρ2 H ∧
          Post X.K X.mg EF ρ2 H (lc2N iv g t vs1 fi1 g1 t1 e M1.length m (i + 1) (wipeD σd vs) M2) (fun _ M' ρ' H' => Post X.K X.mg E ρ' H' (.ok (.ref M1.length) M') fun d _ ρ' H' => ∀ v, Den X.K ρ' H' d v → Q v H'),
        fun H' w => ⟨m, Nat.lt_succ_self m, w⟩, fun w H3 y => ?_⟩
      obtain ⟨x3, R3, rx⟩ := hyl w H3 y
      have en3 := en2.ext R2 x3
      refine ⟨ρ2, M2, wipeD σd vs, x, R3, en3, rx, (Post.from hp3 x3).bind.imp fun σ4 M4 ρ4 H4 x4 R4 hp4 σ' en' off => ?_⟩
      refine ⟨(wipe_off (off.sub hv)).trans wipe_wipe, ?_⟩
      refine ⟨ρ4, M4, σ4, R4, en', hp4.bind.imp fun b M5 ρ5 H5 x5 R5 hp5 => ?_⟩
      have en5 := (en3.ext R3 x4).ext R4 x5
      have x15 := ((x2.trans x3).trans x4).trans x5
      cases b with
      | false =>
        dsimp only
        rw [if_neg Bool.false_ne_true]
        exact ⟨ρ5, M5, R5, en5, x15, hp5⟩
      | true =>
        dsimp only
        rw [if_pos rfl]
        have eni := en'.ext R4 x5
        refine ⟨ρ5, M5, σ4, R5, eni, hp5.bind.imp fun iv1 M6 ρ6 H6 x6 R6 hp6 J1 hJ1 => ?_⟩
        have en6 := en5.ext R5 x6
        have eni6 := (eni.ext R5 x6).wipe vs1
        have x16 := x15.trans x6
        refine ⟨fun j k H => ∃ ρ7 M7, Rep X.K ρ7 M7 H ∧ EnvD X.K ρ7 H (wipeD σ4 vs1) (L2.wipe σ' vs1) ∧ EnvD X.K ρ7 H (wipeD σd vs) (L2.wipe σ vs) ∧ Ext ρ6 H6 ρ7 H ∧
            Post X.K X.mg EF ρ7 H (lcN iv1 g1 t1 e M1.length k j (wipeD σ4 vs1) M7) (fun _ M8 ρ8 H8 => Post X.K X.mg EF ρ8 H8 (lc2N iv g t vs1 fi1 g1 t1 e M1.length m (i + 1) (wipeD σd vs) M8) (fun _ M' ρ' H' => Post X.K X.mg E ρ' H' (.ok (.ref M1.length) M') fun d _ ρ' H' => ∀ v, Den X.K ρ' H' d v → Q v H')),
          ⟨ivLen iv1 M6 + 1, ρ6, M6, R6, eni6, en6, .refl, hp6.bind⟩, ?_⟩
        rintro j k H7 ⟨ρ7, M7, R7, eni7, en7, x7, hp7⟩
        have xR1 := x7.toR
        cases k with
        | zero => exact (show False from hp7).elim
        | succ k =>
          unfold lcN at hp7
          split at hp7
          · exact (show False from hp7).elim
          · rename_i eiv1
            exact .inl ⟨ivAt_none hJ1 xR1 R7 eiv1, ρ7, M7, R7, en7, x16.trans x7, Post.here hp7 R7⟩
          · rename_i z eiv1
            obtain ⟨hgo1, hyl1⟩ := ivAt_some hJ1 xR1 R7 eiv1
            refine .inr ⟨hgo1, fun H => ∃ ρ7 M7, Rep X.K ρ7 M7 H ∧ EnvD X.K ρ7 H (wipeD σ4 vs1) (L2.wipe σ' vs1) ∧ EnvD X.K ρ7 H (wipeD σd vs) (L2.wipe σ vs) ∧ Ext ρ6 H6 ρ7 H ∧
                Post X.K X.mg EF ρ7 H (lcN iv1 g1 t1 e M1.length k (j + 1) (wipeD σ4 vs1) M7) (fun _ M8 ρ8 H8 => Post X.K X.mg EF ρ8 H8 (lc2N iv g t vs1 fi1 g1 t1 e M1.length m (i + 1) (wipeD σd vs) M8) (fun _ M' ρ' H' => Post X.K X.mg E ρ' H' (.ok (.ref M1.length) M') fun d _ ρ' H' => ∀ v, Den X.K ρ' H' d v → Q v H')),
              fun H' w => ⟨k, Nat.lt_succ_self k, w⟩, fun w H8 y => ?_⟩
            obtain ⟨x8, R8, rz⟩ := hyl1 w H8 y
            have eni8 := eni7.ext R7 x8
            have en8 := en7.ext R7 x8
            refine ⟨ρ7, M7, wipeD σ4 vs1, z, R8, eni8, rz, (Post.from hp7 x8).bind.imp fun σ9 M9 ρ9 H9 x9 R9 hp9 σ'' en'' off1 => ?_⟩
            refine ⟨(wipe_off (off1.sub hv1)).trans wipe_wipe, ?_⟩
            refine ⟨ρ9, M9, σ9, R9, en'', hp9.bind.imp fun b1 M10 ρ10 H10 x10 R10 hp10 => ?_⟩
            have eni10 := (eni8.ext R8 x9).ext R9 x10
            have en10 := (en8.ext R8 x9).ext R9 x10
            have x11 := ((x7.trans x8).trans x9).trans x10
            cases b1 with
            | false =>
              dsimp only
              rw [if_neg Bool.false_ne_true]
              exact ⟨ρ10, M10, R10, eni10, en10, x11, hp10⟩
            | true =>
              dsimp only
              rw [if_pos rfl]
              refine ⟨ρ10, M10, σ9, R10, en''.ext R9 x10, hp10.bind.imp fun yd M12 ρ12 H12 x12 R12 hp12 yv ry => ?_⟩
              have x13 := x11.trans x12
              split at hp12
              · rename_i acc hacc
                split at hp12
                · rename_i hl
                  have ix12 := (x16.trans x13).get ixp
                  obtain ⟨us, h1, da⟩ := R12.obj _ _ _ ix12 hacc
                  have xw : Ext ρ12 H12 ρ12 (upd H12 p (.lst (us ++ [yv]))) := .write (List.mem_of_getElem? ix12) (nfz h1)
                  exact ⟨us, h1, by rw [← da.length]; exact hl, ρ12, _, R12.write (o := .lst (acc ++ [yd])) ix12 (nfz h1) ⟨_, upd_same, (da.append (.cons ry .nil)).ext R12 xw⟩, (eni10.ext R10 x12).ext R12 xw, (en10.ext R10 x12).ext R12 xw, x13.trans xw, Post.from hp12 xw⟩
                · exact hp12.elim
              · exact hp12.elim
theorem je_lc2N {vsg vsg1 vs1 : List Nat} {elt tg iter tg1 iter1 : Expr} {ifs ifs1 : List Expr} {scope : Scope} {own : List (Str × Nat)} {pos : Pos} {fi fi1 : SI} {g g1 : SG} {t t1 : SB} {e : SF} (hc : X.calm = true) (hN : X.N.Nodup) (hi : JI X E tg iter fi) (ok : BlkOk X.N X.env.scope scope own) (hv : ∀ i ∈ vsg, i ∈ own.map (·.2)) (hv1 : ∀ i ∈ vsg1, i ∈ vs1) (hvo : ∀ i ∈ vs1, i ∈ own.map (·.2))
    (hg : ∀ (s : Shared) (H : Hp) (C : Addr) (cl : List (Str × Addr)) (fp : List Addr), JG (X.blk s H scope (compEnvC scope cl C X.env) fp) EF vsg tg g) (ht : ∀ (s : Shared) (H : Hp) (C : Addr) (cl : List (Str × Addr)) (fp : List Addr), PTs (X.blk s H scope (compEnvC scope cl C X.env) fp) ifs (tT X.K X.mg EF t))
    (hi1 : ∀ (s : Shared) (H : Hp) (C : Addr) (cl : List (Str × Addr)) (fp : List Addr), JI (X.blk s H scope (compEnvC scope cl C X.env) fp) EF tg1 iter1 fi1)
    (hg1 : ∀ (s : Shared) (H : Hp) (C : Addr) (cl : List (Str × Addr)) (fp : List Addr), JG (X.blk s H scope (compEnvC scope cl C X.env) fp) EF vsg1 tg1 g1) (ht1 : ∀ (s : Shared) (H : Hp) (C : Addr) (cl : List (Str × Addr)) (fp : List Addr), PTs (X.blk s H scope (compEnvC scope cl C X.env) fp) ifs1 (tT X.K X.mg EF t1))
    (he : ∀ (s : Shared) (H : Hp) (C : Addr) (cl : List (Str × Addr)) (fp : List Addr), JE (X.blk s H scope (compEnvC scope cl C X.env) fp) EF elt e) (hs : ∀ x, foldedSetIterable iter X.env x = pure x := by intro _; rfl) (hs1 : ∀ env x, foldedSetIterable iter1 env x = pure x := by intro _ _; rfl) :
    JE X E (.ListComp elt [⟨tg, iter, ifs, 0⟩, ⟨tg1, iter1, ifs1, 0⟩] scope pos) (fLc2N (own.map (·.2)) vs1 fi g t fi1 g1 t1 e) :=
  PE.weak (pe_lc2 hc hN hi ok hvo hg ht hi1 hg1 ht1 he hs hs1) fun σ H Q h => tLc2N_of hv hv1 h
end
end KP
namespace KP
open PySem PySem.Spec PyProof.Rows L2
section
variable {X : Cx} {E : XK}
theorem js_setLc2N {i : Nat} {y : Str} {py : Pos} {vsg vsg1 vs1 : List Nat} {elt tg iter tg1 iter1 : Expr} {ifs ifs1 : List Expr} {scope : Scope} {own : List (Str × Nat)} {pos spos : Pos} {fi fi1 : SI} {g g1 : SG} {t t1 : SB} {e : SF} (hc : X.calm = true) (hN : X.N.Nodup) (hy : X.N[i]? = some y) (hyl : X.env.scope.names.lookup y = some .local)
    (hsw : swapsWith (.ListComp elt [⟨tg, iter, ifs, 0⟩, ⟨tg1, iter1, ifs1, 0⟩] scope pos) (some (.Name y py)) spos.line X.env = pure true) (hi : JI X E tg iter fi) (ok : BlkOk X.N X.env.scope scope own) (hv : ∀ i ∈ vsg, i ∈ own.map (·.2)) (hv1 : ∀ i ∈ vsg1, i ∈ vs1) (hvo : ∀ i ∈ vs1, i ∈ own.map (·.2))
    (hg : ∀ (s : Shared) (H : Hp) (C : Addr) (cl : List (Str × Addr)) (fp : List Addr), JG (X.blk s H scope (compEnvC scope cl C X.env) fp) EF vsg tg g) (ht : ∀ (s : Shared) (H : Hp) (C : Addr) (cl : List (Str × Addr)) (fp : List Addr), PTs (X.blk s H scope (compEnvC scope cl C X.env) fp) ifs (tT X.K X.mg EF t))
    (hi1 : ∀ (s : Shared) (H : Hp) (C : Addr) (cl : List (Str × Addr)) (fp : List Addr), JI (X.blk s H scope (compEnvC scope cl C X.env) fp) EF tg1 iter1 fi1)
    (hg1 : ∀ (s : Shared) (H : Hp) (C : Addr) (cl : List (Str × Addr)) (fp : List Addr), JG (X.blk s H scope (compEnvC scope cl C X.env) fp) EF vsg1 tg1 g1) (ht1 : ∀ (s : Shared) (H : Hp) (C : Addr) (cl : List (Str × Addr)) (fp : List Addr), PTs (X.blk s H scope (compEnvC scope cl C X.env) fp) ifs1 (tT X.K X.mg EF t1))
    (he : ∀ (s : Shared) (H : Hp) (C : Addr) (cl : List (Str × Addr)) (fp : List Addr), JE (X.blk s H scope (compEnvC scope cl C X.env) fp) EF elt e) (hs : ∀ x, foldedSetIterable iter X.env x = pure x := by intro _; rfl) (hs1 : ∀ env x, foldedSetIterable iter1 env x = pure x := by intro _ _; rfl) :
    JS X E (.Assign [.Name y py] (.ListComp elt [⟨tg, iter, ifs, 0⟩, ⟨tg1, iter1, ifs1, 0⟩] scope pos) spos) (sAsg (fLc2N (own.map (·.2)) vs1 fi g t fi1 g1 t1 e) (gSet i)) := by
  refine PS.weak (ps_setLc2 (wi := tI X.K X.mg E fi) (g := tG X.K X.mg EF vsg g) (tt := tT X.K X.mg EF t) (wi1 := tI X.K X.mg EF fi1) (g1 := tG X.K X.mg EF vsg1 g1) (tt1 := tT X.K X.mg EF t1) (te := tE X.K X.mg EF e) (vs1 := vs1) hc hN hy hyl hsw hi ok hvo hg ht hi1 hg1 ht1 he hs hs1) fun D σ H ⟨ρ, M, σd, R, en, hp⟩ => ?_
  exact tLc2N_of (E := E) hv hv1 ⟨ρ, M, σd, R, en, hp.bind.imp fun d M1 ρ1 H1 x1 R1 hp1 v rv => hp1.here R1 _ ((en.ext R x1).set i rv)⟩
/-- t1 = t2 = e -/
def sAsg2 (f : SF) (g1 g2 : SG) : SS := fun σ M => (f σ M).bind fun d M1 => (g1 d σ M1).bind fun σ1 M2 => (g2 d σ1 M2).bind fun σ2 M3 => .ok (.nx σ2) M3
theorem js_asg2 {vs vs2 : List Nat} {t1 t2 e : Expr} {f : SF} {g1 g2 : SG} {pos : Pos} (he : JE X E e f) (h1 : JG X E vs t1 g1) (h2 : JG X E vs2 t2 g2) (ha : (assignEach [t1, t2] X.env).map (·.2) = [assign t1 X.env, assign t2 X.env] := by rfl) (hw : swappedStores [t1, t2] e X.env = pure none := by rfl) :
    JS X E (.Assign [t1, t2] e pos) (sAsg2 f g1 g2) := by
  refine PS.weak (ps_asg2 he h1 h2 ha hw) fun D σ H ⟨ρ, M, σd, R, en, hp⟩ => ?_
  refine ⟨ρ, M, σd, R, en, hp.bind.imp fun d M1 ρ1 H1 x1 R1 hp1 v rv => ?_⟩
  have en1 := en.ext R x1
  refine ⟨ρ1, M1, σd, d, R1, en1, rv, hp1.bind.imp fun σ2 M2 ρ2 H2 x2 R2 hp2 σ' en' off => ?_⟩
  refine ⟨ρ2, M2, σ2, d, R2, en', rv.ext R1 x2, hp2.bind.imp fun σ3 M3 ρ3 H3 x3 R3 hp3 σ'' en'' off2 => ?_⟩
  exact hp3.here R3 _ en''
variable {N : List Str} {sc : Scope} {ks : List (Option NameKind)} {own : List Nat} {k : Nat}
def Blk2 (X : Cx) (N : List Str) (sc scope : Scope) (ks' : List (Option NameKind)) (ow : List (Str × Nat)) (k : Nat) (vsg vsg1 : List Nat) (tg tg1 iter1 elt : Expr) (ifs ifs1 : List Expr) (g : SG) (t : SB) (fi1 : SI) (g1 : SG) (t1 : SB) (e : SF) : Prop :=
  ∀ (s : Shared) (H : Hp) (Cc : Addr) (cl : List (Str × Addr)) (fp : List Addr), Ctx (X.blk s H scope (compEnvC scope cl Cc X.env) fp) EF N (relS scope sc) ks' (ow.map (·.2)) k →
    JG (X.blk s H scope (compEnvC scope cl Cc X.env) fp) EF vsg tg g ∧ PTs (X.blk s H scope (compEnvC scope cl Cc X.env) fp) ifs (tT X.K X.mg EF t) ∧ JI (X.blk s H scope (compEnvC scope cl Cc X.env) fp) EF tg1 iter1 fi1 ∧
    JG (X.blk s H scope (compEnvC scope cl Cc X.env) fp) EF vsg1 tg1 g1 ∧ PTs (X.blk s H scope (compEnvC scope cl Cc X.env) fp) ifs1 (tT X.K X.mg EF t1) ∧ JE (X.blk s H scope (compEnvC scope cl Cc X.env) fp) EF elt e
theorem clc2N (C : Ctx X E N sc ks own k) (ow : List (Str × Nat)) (vs1 : List Nat) (ks' : List (Option NameKind)) {vsg vsg1 : List Nat} {elt tg iter tg1 iter1 : Expr} {ifs ifs1 : List Expr} {scope : Scope} {pos : Pos} {fi fi1 : SI} {g g1 : SG} {t t1 : SB} {e : SF} (hi : JI X E tg iter fi) (hB : Blk2 X N sc scope ks' ow k vsg vsg1 tg tg1 iter1 elt ifs ifs1 g t fi1 g1 t1 e)
    (ok : blkAll N sc scope ks' ow = true := by decide +kernel) (hv : ∀ i ∈ vsg, i ∈ ow.map (·.2) := by decide) (hv1 : ∀ i ∈ vsg1, i ∈ vs1 := by decide) (hvo : ∀ i ∈ vs1, i ∈ ow.map (·.2) := by decide) (hs : ∀ x, foldedSetIterable iter X.env x = pure x := by intro _; rfl) (hs1 : ∀ env x, foldedSetIterable iter1 env x = pure x := by intro _ _; rfl) :
    JE X E (.ListComp elt [⟨tg, iter, ifs, 0⟩, ⟨tg1, iter1, ifs1, 0⟩] scope pos) (fLc2N (ow.map (·.2)) vs1 fi g t fi1 g1 t1 e) := by
  obtain ⟨o1, o2, o3, o4⟩ := blkAll_ok ok
  have hb := fun s H Cc cl fp => hB s H Cc cl fp (C.blk o4 o2 o3 s H Cc cl fp)
  exact je_lc2N C.calm (by rw [C.hN]; exact C.nd) hi (by rw [C.hN, C.hsc]; exact o1) hv hv1 hvo (fun s H Cc cl fp => (hb s H Cc cl fp).1) (fun s H Cc cl fp => (hb s H Cc cl fp).2.1) (fun s H Cc cl fp => (hb s H Cc cl fp).2.2.1) (fun s H Cc cl fp => (hb s H Cc cl fp).2.2.2.1) (fun s H Cc cl fp => (hb s H Cc cl fp).2.2.2.2.1) (fun s H Cc cl fp => (hb s H Cc cl fp).2.2.2.2.2) hs hs1
theorem csetLc2N (C : Ctx X E N sc ks own k) (i : Nat) (ow : List (Str × Nat)) (vs1 : List Nat) (ks' : List (Option NameKind)) {y : Str} {py : Pos} {vsg vsg1 : List Nat} {elt tg iter tg1 iter1 : Expr} {ifs ifs1 : List Expr} {scope : Scope} {pos spos : Pos} {fi fi1 : SI} {g g1 : SG} {t t1 : SB} {e : SF} (hi : JI X E tg iter fi) (hB : Blk2 X N sc scope ks' ow k vsg vsg1 tg tg1 iter1 elt ifs ifs1 g t fi1 g1 t1 e)
    (hN : N[i]? = some y := by rfl) (hk : ks[i]? = some (some .local) := by rfl) (ok : blkAll N sc scope ks' ow = true := by decide +kernel) (hv : ∀ i ∈ vsg, i ∈ ow.map (·.2) := by decide) (hv1 : ∀ i ∈ vsg1, i ∈ vs1 := by decide) (hvo : ∀ i ∈ vs1, i ∈ ow.map (·.2) := by decide) (hl : (py.line == pos.line) = true := by rfl)
    (ha : (scope.names.any fun (n, k) => n == y && (k == .local || k == .cell)) = false := by decide +kernel) (hs : ∀ x, foldedSetIterable iter X.env x = pure x := by intro _; rfl) (hs1 : ∀ env x, foldedSetIterable iter1 env x = pure x := by intro _ _; rfl) :
    JS X E (.Assign [.Name y py] (.ListComp elt [⟨tg, iter, ifs, 0⟩, ⟨tg1, iter1, ifs1, 0⟩] scope pos) spos) (sAsg (fLc2N (ow.map (·.2)) vs1 fi g t fi1 g1 t1 e) (gSet i)) := by
  obtain ⟨o1, o2, o3, o4⟩ := blkAll_ok ok
  have hb := fun s H Cc cl fp => hB s H Cc cl fp (C.blk o4 o2 o3 s H Cc cl fp)
  have hy : X.env.scope.names.lookup y = some .local := by rw [C.hsc]; have := C.kind hN; rw [hk] at this; exact (Option.some.inj this).symm
  exact js_setLc2N C.calm (by rw [C.hN]; exact C.nd) (by rw [C.hN]; exact hN) hy (sw_true (by rw [C.hsc]; exact C.kind0) hy hl ha) hi (by rw [C.hN, C.hsc]; exact o1) hv hv1 hvo (fun s H Cc cl fp => (hb s H Cc cl fp).1) (fun s H Cc cl fp => (hb s H Cc cl fp).2.1) (fun s H Cc cl fp => (hb s H Cc cl fp).2.2.1) (fun s H Cc cl fp => (hb s H Cc cl fp).2.2.2.1) (fun s H Cc cl fp => (hb s H Cc cl fp).2.2.2.2.1) (fun s H Cc cl fp => (hb s H Cc cl fp).2.2.2.2.2) hs hs1
end
end KP

/-! dict displays -/
namespace KP
open PySem PySem.Spec PyProof.Rows L2
/-- pairs, the same -/
def DensP (K : PySem.W.Frag) (ρ : Nu) (H : Hp) : List (D × D) → List (V × V) → Prop
  | [], [] => True
  | p :: ps, v :: vs => Den K ρ H p.1 v.1 ∧ Den K ρ H p.2 v.2 ∧ DensP K ρ H ps vs
  | _, _ => False
/-- the pairs of a display, from the left -/
def fPairs : List (SF × SF) → SD → Mem → Out (List (D × D))
  | [] => fun _ M => .ok [] M
  | (k, v) :: r => fun σ M => (k σ M).bind fun x M1 => (v σ M1).bind fun y M2 => (fPairs r σ M2).bind fun ps M3 => .ok ((x, y) :: ps) M3
section
variable {X : Cx} {E : XK}
def trsOf (K : PySem.W.Frag) (mg : Str → Option Value) (E : XK) (ps : List (SF × SF)) : List (TE × TE) := ps.map fun p => (tE K mg E p.1, tE K mg E p.2)
theorem tPairs_of : ∀ {ps : List (SF × SF)} {σ : L2.St} {H : Hp} {Q : List (V × V) → Hp → Prop} {ρ : Nu} {M : Mem} {σd : SD}, Rep X.K ρ M H → EnvD X.K ρ H σd σ →
    Post X.K X.mg E ρ H (fPairs ps σd M) (fun prs _ ρ' H' => ∀ vs, DensP X.K ρ' H' prs vs → Q vs H') → tPairs (trsOf X.K X.mg E ps) σ H Q
  | [], σ, H, Q, ρ, M, σd, R, en, hp => hp.here R [] True.intro
  | (k, v) :: r, σ, H, Q, ρ, M, σd, R, en, hp => by
    refine ⟨ρ, M, σd, R, en, Post.imp (Post.bind (show Post _ _ _ _ _ ((k σd M).bind _) _ from hp)) fun x M1 ρ1 H1 x1 R1 hp1 vx rx => ?_⟩
    refine ⟨ρ1, M1, σd, R1, en.ext R x1, hp1.bind.imp fun y M2 ρ2 H2 x2 R2 hp2 vy ry => ?_⟩
    refine tPairs_of R2 ((en.ext R x1).ext R1 x2) (hp2.bind.imp fun prs M3 ρ3 H3 x3 R3 hp3 vs dv => ?_)
    exact hp3.here R3 ((vx, vy) :: vs) ⟨(rx.ext R1 x2).ext R2 x3, ry.ext R2 x3, dv⟩
abbrev JPs (X : Cx) (E : XK) (pos : Pos) (keys : List (Option Expr)) (values : List Expr) (ps : List (SF × SF)) : Prop := PPs X pos keys values (trsOf X.K X.mg E ps)
theorem jp_nil {pos : Pos} : JPs X E pos [] [] [] := pps_nil
theorem jp_cons {pos : Pos} {k v : Expr} {ks : List (Option Expr)} {vs : List Expr} {fk fv : SF} {ps : List (SF × SF)} (hk : JE X E k fk) (hv : JE X E v fv) (hr : JPs X E pos ks vs ps) : JPs X E pos (some k :: ks) (v :: vs) ((fk, fv) :: ps) := pps_cons hk hv hr
end
/-! ### keys ints and texts -/
def keysO : List (D × D) → Option (List (Key × D))
  | [] => some []
  | p :: ps => match keyO p.1, keysO ps with
    | some k, some r => some ((k, p.2) :: r)
    | _, _ => none
theorem keysO_ok {K : PySem.W.Frag} {ρ : Nu} {H : Hp} : ∀ {prs : List (D × D)} {vs : List (V × V)} {kvs : List (Key × D)}, DensP K ρ H prs vs → keysO prs = some kvs → ∃ es : List (Key × V), vs = es.map (fun kv => (kV kv.1, kv.2)) ∧ Ents K ρ H kvs es
  | [], [], kvs, _, e => by cases e; exact ⟨[], rfl, .nil⟩
  | [], _ :: _, _, h, _ => h.elim
  | _ :: _, [], _, h, _ => h.elim
  | p :: ps, v :: vs, kvs, ⟨r1, r2, t⟩, e => by
    unfold keysO at e
    split at e
    · rename_i k r hk hr
      cases e
      obtain ⟨es, rfl, q⟩ := keysO_ok t hr
      refine ⟨(k, v.2) :: es, ?_, q.cons r2⟩
      rw [List.map_cons]
      have := keyO_ok r1 hk
      rw [← this]
    · cases e
def mergeD {κ : Type} [DecidableEq κ] (kvs more : List (κ × D)) : List (κ × D) := more.foldl (fun acc kv => putD acc kv.1 kv.2) kvs
theorem Ents.mergeK {K : PySem.W.Frag} {ρ : Nu} {H : Hp} : ∀ {more : List (Key × D)} {me : List (Key × V)} {kvs : List (Key × D)} {es : List (Key × V)}, Ents K ρ H more me → Ents K ρ H kvs es → Ents K ρ H (mergeD kvs more) (L2.mergeK es me)
  | [], me, kvs, es, h, t => by
    have : me = [] := by cases me with
      | nil => rfl
      | cons _ _ => have := h.1; cases this
    subst this; exact t
  | p :: more, me, kvs, es, h, t => by
    obtain ⟨v, me', rfl, r, h'⟩ := h.inv
    exact Ents.mergeK (kvs := putD kvs p.1 p.2) (es := putK es p.1 v) h' (t.put r)
/-- {k: v, ..} -/
def fDisp (ps : List (SF × SF)) : SF := fun σ M => (fPairs ps σ (M ++ [.dct []])).bind fun prs M1 => match M1[M.length]? with
  | some (.dct []) => match keysO prs with
    | some kvs => if kvs.length ≤ 15 then .ok (.ref M.length) (M1.set M.length (.dct (mergeD [] kvs))) else .bad
    | none => .bad
  | _ => .bad
section
variable {X : Cx} {E : XK}
theorem je_disp {pos : Pos} {keys : List (Option Expr)} {values : List Expr} {ps : List (SF × SF)} (h : JPs X E pos keys values ps) (hall : keys.all (·.isSome) = true := by rfl) (hl : keys.length = values.length := by rfl) (h0 : keys ≠ [] := by intro z; cases z)
    (h15 : keys.length ≤ 15 := by decide) : JE X E (.Dict keys values pos) (fDisp ps) := by
  refine PE.weak (pe_disp h hall hl h0 h15) fun σ H Q ⟨ρ, M, σd, R, en, hp⟩ p np => ?_
  have xn : Ext ρ H (ρ.push p) (upd H p (.dK [])) := Ext.new np
  have Rn : Rep X.K (ρ.push p) (M ++ [.dct []]) (upd H p (.dK [])) := R.new np ⟨[], upd_same, rfl, .nil⟩
  have ixp : (ρ.push p).num[M.length]? = some p := by simp [Nu.push, ← R.len]
  refine tPairs_of Rn (en.ext R xn) ((Post.from hp xn).bind.imp fun prs M1 ρ1 H1 x1 R1 hp1 vs dv => ?_)
  split at hp1
  · rename_i eM
    split at hp1
    · rename_i kvs ek
      split at hp1
      · rename_i hl15
        have ix1 := x1.get ixp
        obtain ⟨es0, h1, h2, _⟩ := R1.obj _ _ _ ix1 eM
        have e0 : es0 = [] := by cases es0 with
          | nil => rfl
          | cons _ _ => cases h2
        subst e0
        obtain ⟨es, rfl, q⟩ := keysO_ok dv ek
        refine ⟨h1, es, rfl, by rw [← q.length]; exact hl15, ?_⟩
        have xw : Ext ρ1 H1 ρ1 (upd H1 p (.dK (L2.mergeK [] es))) := .write (List.mem_of_getElem? ix1) (nfz h1)
        have q2 := Ents.mergeK (q.ext R1 xw) (.nil : Ents X.K ρ1 (upd H1 p (.dK (L2.mergeK [] es))) [] [])
        exact hp1 _ _ xw (R1.write ix1 (nfz h1) ⟨_, upd_same, q2.1, q2.2⟩) _ (.ref ix1)
      · exact hp1.elim
    · exact hp1.elim
  · exact hp1.elim
end
end KP

/-! dicts that are locked while they are walked -/
namespace KP
open PySem PySem.Spec PyProof.Rows L2
section
variable {K : PySem.W.Frag} {ρ ρ' : Nu} {H H' : Hp}
/-- tuples and lists stay -/
def Stays (H H' : Hp) : Prop := ∀ b o, H b = some o → ((∃ xs, o = .tup xs) ∨ (∃ xs, o = .lst xs) ∨ (∃ od xs, o = .frz od (.tup xs)) ∨ ∃ od xs, o = .frz od (.lst xs)) → H' b = some o
theorem SqT.over (k : Stays H H') {a : Addr} {vs : List V} (h : SqT K H a vs) : SqT K H' a vs := by
  rcases h with (h | ⟨od, h⟩) | h
  · exact .inl (.inl (k _ _ h (.inl ⟨_, rfl⟩)))
  · exact .inl (.inr ⟨od, k _ _ h (.inr (.inr (.inl ⟨_, _, rfl⟩)))⟩)
  · exact .inr h
mutual
theorem Den.over (k : Stays H H') : ∀ {d : D} {v : V}, Den K ρ H d v → Den K ρ H' d v
  | _, _, .non => .non
  | _, _, .bl b => .bl b
  | _, _, .int i => .int i
  | _, _, .str z => .str z
  | _, _, .tup h t => .tup (h.map (KP.SqT.over k) fun h => k _ _ h (.inl ⟨_, rfl⟩)) (Dens.over k t)
  | _, _, .lst h1 h2 h t => .lst h1 h2 (k _ _ h (.inr (.inl ⟨_, rfl⟩))) (Dens.over k t)
  | _, _, .fl h t => .fl (by
      rcases h with ⟨od, h⟩ | h
      · exact .inl ⟨od, k _ _ h (.inr (.inr (.inr ⟨_, _, rfl⟩)))⟩
      · exact .inr h) (Dens.over k t)
  | _, _, .ref h => .ref h
  | _, _, .ty n => .ty n
theorem Dens.over (k : Stays H H') : ∀ {ds : List D} {vs : List V}, Dens K ρ H ds vs → Dens K ρ H' ds vs
  | _, _, .nil => .nil
  | _, _, .cons r t => .cons (Den.over k r) (Dens.over k t)
end
theorem EnvD.over (k : Stays H H') {σd : SD} {σ : L2.St} (h : EnvD K ρ H σd σ) : EnvD K ρ H' σd σ := ⟨h.len, fun i d e => let ⟨v, e1, r⟩ := h.get i d e; ⟨v, e1, r.over k⟩⟩
def lockM (M : Mem) (n : Nat) : Option Mem := match M[n]? with
  | some (.dct kvs) => some (M.set n (.dctF kvs))
  | some (.dtt kvs) => some (M.set n (.dttF kvs))
  | _ => none
def unlM (M : Mem) (n : Nat) : Option Mem := match M[n]? with
  | some (.dctF kvs) => some (M.set n (.dct kvs))
  | some (.dttF kvs) => some (M.set n (.dtt kvs))
  | _ => none
theorem lock_ok {M M' : Mem} {n : Nat} {a : Addr} (R : Rep K ρ M H) (hr : ρ.num[n]? = some a) (h : lockM M n = some M') : ∃ u, H a = some u ∧ Mut (some u) ∧ (∀ od w, u ≠ .frz od w) ∧ ((∃ es, u = .dK es) ∨ ∃ es, u = .dT es) ∧
    ∀ od, Rep K ρ M' (upd H a (.frz od u)) ∧ Ext ρ H ρ (upd H a (.frz od u)) := by
  unfold lockM at h
  split at h
  · rename_i kvs e
    cases h
    obtain ⟨es, h1, h2, t⟩ := R.obj _ _ _ hr e
    refine ⟨_, h1, True.intro, (fun _ _ z => by cases z), .inl ⟨_, rfl⟩, fun od => ?_⟩
    have x : Ext ρ H ρ (upd H a (.frz od (.dK es))) := .write (List.mem_of_getElem? hr) (nfz h1)
    exact ⟨R.write hr (nfz h1) ⟨es, od, upd_same, h2, t.ext R x⟩, x⟩
  · rename_i kvs e
    cases h
    obtain ⟨es, h1, h2, t⟩ := R.obj _ _ _ hr e
    refine ⟨_, h1, True.intro, (fun _ _ z => by cases z), .inr ⟨_, rfl⟩, fun od => ?_⟩
    have x : Ext ρ H ρ (upd H a (.frz od (.dT es))) := .write (List.mem_of_getElem? hr) (nfz h1)
    exact ⟨R.write hr (nfz h1) ⟨es, od, upd_same, h2, t.ext R x⟩, x⟩
  · cases h
theorem stays_unl {a : Addr} {od : Obj} {u w : HO} (h1 : H a = some (.frz od u)) (hu : (∃ es, u = .dK es) ∨ ∃ es, u = .dT es) : Stays H (upd H a w) := by
  intro b o e c
  rw [upd_ne (fun z => ?_)]
  · exact e
  · subst z
    rw [h1] at e
    cases e
    rcases hu with ⟨es, rfl⟩ | ⟨es, rfl⟩
    · rcases c with ⟨_, c⟩ | ⟨_, c⟩ | ⟨_, _, c⟩ | ⟨_, _, c⟩ <;> cases c
    · rcases c with ⟨_, c⟩ | ⟨_, c⟩ | ⟨_, _, c⟩ | ⟨_, _, c⟩ <;> cases c
theorem Rep.relay {M : Mem} (R : Rep K ρ M H) {n : Nat} {a : Addr} {u : HO} {o : MO} (hr : ρ.num[n]? = some a) (k : Stays H (upd H a u)) (ho : RepO K ρ (upd H a u) a o) : Rep K ρ (M.set n o) (upd H a u) := by
  refine ⟨by simp [R.len], R.nd, fun i b o' e1 e2 => ?_, fun z hz => ⟨upd_live (R.held z hz).1, (R.held z hz).2⟩⟩
  by_cases hi : i = n
  · subst hi
    rw [hr] at e1; cases e1
    rw [List.getElem?_set_self (by rw [← R.len]; exact (List.getElem?_eq_some_iff.mp hr).1)] at e2
    cases e2; exact ho
  · rw [List.getElem?_set_ne (Ne.symm hi)] at e2
    refine (R.obj i b o' e1 e2).map (a' := b) (upd_ne fun z => hi ?_) (Dens.over k)
    subst z
    obtain ⟨h1, q1⟩ := List.getElem?_eq_some_iff.mp hr
    obtain ⟨h2, q2⟩ := List.getElem?_eq_some_iff.mp e1
    exact (List.getElem_inj R.nd).mp (q2.trans q1.symm)
theorem unl_ok {M M' : Mem} {n : Nat} {a : Addr} {od : Obj} {u : HO} (R : Rep K ρ M H) (hr : ρ.num[n]? = some a) (hu : (∃ es, u = .dK es) ∨ ∃ es, u = .dT es) (h1 : H a = some (.frz od u)) (h : unlM M n = some M') : Rep K ρ M' (upd H a u) := by
  have k := stays_unl (w := u) h1 hu
  unfold unlM at h
  split at h
  · rename_i kvs e
    cases h
    obtain ⟨es, od', h2, h3, t⟩ := R.obj _ _ _ hr e
    rw [h1] at h2; cases h2
    exact R.relay hr k ⟨es, upd_same, h3, t.over k⟩
  · rename_i kvs e
    cases h
    obtain ⟨es, od', h2, h3, t⟩ := R.obj _ _ _ hr e
    rw [h1] at h2; cases h2
    exact R.relay hr k ⟨es, upd_same, h3, t.over k⟩
  · cases h
theorem unl_ext {a : Addr} {od : Obj} {u : HO} (h0 : H a = some u) (hm : a ∈ ρ.num) (hn : ∀ od w, u ≠ .frz od w) (x : Ext ρ (upd H a (.frz od u)) ρ' H') : Ext ρ H ρ' (upd H' a u) := by
  obtain ⟨⟨l, e, n⟩, res, keep, live⟩ := x
  refine ⟨⟨l, e, fun b hb => ?_⟩, res, fun b o hb c => ?_, fun b hb => ?_⟩
  · have := n b hb
    by_cases z : b = a
    · subst z; rw [upd_same] at this; cases this
    · rw [upd_ne z] at this; exact this
  · by_cases z : b = a
    · subst z
      rw [h0] at hb; cases hb
      rcases c with c | ⟨od', w, c⟩
      · exact absurd hm c
      · exact absurd c (hn _ _)
    · rw [upd_ne z]
      exact keep b o (by rw [upd_ne z]; exact hb) c
  · by_cases z : b = a
    · subst z; rw [upd_same]; simp
    · rw [upd_ne z]
      exact live b (by rw [upd_ne z]; exact hb)
end
/-- an expression that walks the dict in slot i -/
def fLock (i : Nat) (f : SF) : SF := fun σ M => match σ[i]? with
  | some (some (.ref n)) => optO (lockM M n) fun M1 => match f σ M1 with
    | .ok d M2 => optO (unlM M2 n) fun M3 => .ok d M3
    | _ => .bad
  | _ => .bad
/-- a statement that walks the dict in slot i -/
def sLock (i : Nat) (f : SS) : SS := fun σ M => match σ[i]? with
  | some (some (.ref n)) => optO (lockM M n) fun M1 => match f σ M1 with
    | .ok fl M2 => optO (unlM M2 n) fun M3 => .ok fl M3
    | _ => .bad
  | _ => .bad
section
variable {X : Cx} {E : XK}
theorem je_lock {i : Nat} {e : Expr} {f : SF} (h : JE X E e f) : JE X E e (fLock i f) := by
  refine PE.weak (pe_lock h) fun σ H Q ⟨ρ, M, σd, R, en, hp⟩ => ?_
  unfold fLock at hp
  split at hp
  · rename_i n en1
    obtain ⟨M1, e1, hp⟩ := optO_post hp
    obtain ⟨v, ev, rv⟩ := en.get _ _ en1
    cases rv with
    | ref hr =>
      rename_i a
      obtain ⟨u, h0, mu, hn, hu, hl⟩ := lock_ok R hr e1
      refine ⟨a, u, h0, mu, fun od => ?_⟩
      obtain ⟨R1, x1⟩ := hl od
      refine ⟨ρ, M1, σd, R1, en.ext R x1, ?_⟩
      cases q : f σd M1 with
      | bad => rw [q] at hp; exact hp.elim
      | exc n fs M2 => rw [q] at hp; exact hp.elim
      | ok d M2 =>
        rw [q] at hp
        intro ρ2 H2 x2 R2 v rv
        have h2 : H2 a = some (.frz od u) := x2.keep a _ upd_same (.inr ⟨_, _, rfl⟩)
        obtain ⟨M3, e3, hp⟩ := optO_post hp
        refine ⟨h2, ?_⟩
        have k := stays_unl (w := u) h2 hu
        exact hp ρ2 _ (unl_ext h0 (List.mem_of_getElem? hr) hn x2) (unl_ok R2 (x2.get hr) hu h2 e3) v (rv.over k)
  · exact hp.elim
theorem js_lock {i : Nat} {s : Stmt} {f : SS} (h : JS X E s f) : JS X E s (sLock i f) := by
  refine PS.weak (ps_lock h) fun D σ H ⟨ρ, M, σd, R, en, hp⟩ => ?_
  unfold sLock at hp
  split at hp
  · rename_i n en1
    obtain ⟨M1, e1, hp⟩ := optO_post hp
    obtain ⟨v, ev, rv⟩ := en.get _ _ en1
    cases rv with
    | ref hr =>
      rename_i a
      obtain ⟨u, h0, mu, hn, hu, hl⟩ := lock_ok R hr e1
      refine ⟨a, u, h0, mu, fun od => ?_⟩
      obtain ⟨R1, x1⟩ := hl od
      refine ⟨ρ, M1, σd, R1, en.ext R x1, ?_⟩
      cases q : f σd M1 with
      | bad => rw [q] at hp; exact hp.elim
      | exc n fs M2 => rw [q] at hp; exact hp.elim
      | ok fl M2 =>
        rw [q] at hp
        intro ρ2 H2 x2 R2
        have h2 : H2 a = some (.frz od u) := x2.keep a _ upd_same (.inr ⟨_, _, rfl⟩)
        obtain ⟨M3, e3, hp⟩ := optO_post hp
        have k := stays_unl (w := u) h2 hu
        have hq := hp ρ2 _ (unl_ext h0 (List.mem_of_getElem? hr) hn x2) (unl_ok R2 (x2.get hr) hu h2 e3)
        cases fl with
        | nx σ1 => exact fun σ' en' => ⟨h2, hq σ' (en'.over k)⟩
        | rt d => exact fun v rv => ⟨h2, hq v (rv.over k)⟩
        | bk σ1 => exact fun σ' en' => ⟨h2, hq σ' (en'.over k)⟩
        | ct σ1 => exact fun σ' en' => ⟨h2, hq σ' (en'.over k)⟩
  · exact hp.elim
end
end KP

/-! walks over the keys and the pairs of dicts -/
namespace KP
open PySem PySem.Spec PyProof.Rows L2
theorem den_kD {K : PySem.W.Frag} {ρ : Nu} {H : Hp} : ∀ k : Key, Den K ρ H (kD k) (kV k)
  | .inl i => .int i
  | .inr x => by
    have := Den.str (K := K) (ρ := ρ) (H := H) x.cps.toList
    rwa [show (⟨x.cps.toList.toArray⟩ : Str) = x by cases x; simp] at this
theorem dens_kD {K : PySem.W.Frag} {ρ : Nu} {H : Hp} : ∀ ks : List Key, Dens K ρ H (ks.map kD) (ks.map kV)
  | [] => .nil
  | k :: ks => .cons (den_kD k) (dens_kD ks)
def tD (ks : List Key) : D := .tup (ks.map kD)
section
variable {X : Cx} {pins : List (Addr × Obj)} {σ : L2.St} {H : Hp} {s : Shared} {d : Addr} {o : Obj}
theorem frzT2 {kvs : List (List Key × V)} (I : Inv X pins σ H s) (h : H d = some (.frz o (.dT kvs))) :
    (d == sysModules) = false ∧ s.heap.get? d = some o ∧ o.ExactDict ∧ ∃ (es : Array DictEntry) (ep : Nat), o.data = .dict es ep ∧ es.size = kvs.length ∧
      ∀ (i : Nat) (k : List Key) (v : V), kvs[i]? = some (k, v) → ∃ (en : DictEntry) (q : Addr), es[i]? = some en ∧ en.key = .ref q ∧ H q = some (.tup (k.map kV)) ∧ RelV v en.val := by
  obtain ⟨hd, z, hs, xs, pr, o', es, ep, ho, hx, hdt, he, _⟩ := I.hok d _ h
  rw [hd] at ho
  cases ho
  refine ⟨hs, hd, hx, es, ep, hdt, ?_, fun i k v e => ?_⟩
  · have l1 : es.size = xs.length := size_of_entries he
    have l2 : kvs.length = xs.length := Paired.length pr
    omega
  · obtain ⟨b, hb, e1, e2, e3⟩ := paired_get pr e
    have q := entry_at he i
    rw [hb] at q
    exact ⟨_, b.2.1, q, rfl, e2, e3⟩
end
/-- the pairs of a dict with tuple keys, each a new tuple -/
def ItiT (d : Addr) (o : Obj) (kvs : List (List Key × V)) : It :=
  ⟨fun i H => H d = some (.frz o (.dT kvs)) ∧ i < kvs.length, fun i H x H' => ∃ T q k v, kvs[i]? = some (k, v) ∧ x = .ref T ∧ H T = none ∧ H q = some (.tup (k.map kV)) ∧ H' = upd H T (.tup [.ref q, v]), fun i H => H d = some (.frz o (.dT kvs)) ∧ kvs.length ≤ i⟩
section
variable {P : Program} {w : World} {K : PySem.W.Frag} {tg : Expr} {d : Addr} {o : Obj} {es : Array DictEntry} {ep : Nat}
theorem turn_itemsT {kvs : List (List Key × V)} {elts : List Expr} {kk : Nat} {tpos : Pos} (it : Addr) (hod : o.data = .dict es ep) :
    Turn P w K (.Tuple elts kk tpos) (ItiT d o kvs) [it] it (fun i h => ∃ ok ov, IsItemIter h it d i kvs.length ep ok ov) where
  mem := by simp
  obj := fun i h st b hb => by
    have e : b = it := by simpa using hb
    subst e
    obtain ⟨ok, ov, e⟩ := st
    exact ⟨_, e, fun v z => nomatch z⟩
  keep := fun i h h' st k => let ⟨ok, ov, e⟩ := st; ⟨ok, ov, k it (by simp) _ e⟩
  item := by
    intro X hP hw hK hc i pins s σ H E I hf st hg
    subst hP hw hK
    obtain ⟨hd, hi⟩ := hg
    obtain ⟨hs, hgd, hx, es', ep', hdt, hsz, ent⟩ := frzT2 I hd
    obtain ⟨rfl, rfl⟩ := dict_ep hod hdt
    obtain ⟨⟨k, v⟩, hkv⟩ : ∃ p, kvs[i]? = some p := ⟨kvs[i], List.getElem?_eq_getElem hi⟩
    obtain ⟨en, q, hen, hkey, hq, hval⟩ := ent i k v hkv
    obtain ⟨ok, ov, he⟩ := st
    rw [← hsz] at he
    have hlt : it < s.heap.objs.size := Heap.lt_size he
    have raw : DT.Raw s.heap d es' ep' := ⟨o, hgd, hx, hdt⟩
    have hie : i < es'.size := by omega
    have een : es'[i] = en := by rw [Array.getElem?_eq_getElem hie] at hen; exact Option.some.inj hen
    refine DT.nextI he raw hie fun h' ho hT hz hk => ?_
    refine ⟨_, rfl, wpAny_letOwnedTupleGo_items (s := { s with heap := h' }) ho fun h'' he' sb => ?_⟩
    have hT2 : h''.get? s.heap.objs.size = some { cls := .type "tuple", data := .seq #[es'[i].key, es'[i].val] } := (sb.2 _ (Nat.ne_of_gt hlt)).trans hT
    rw [een] at hT2
    have new : ObjOk X.prog X.w (upd H s.heap.objs.size (.tup [.ref q, v])) h'' s.heap.objs.size (.tup [.ref q, v]) :=
      ⟨by show 2 ≤ sizeLine; decide, [en.key, en.val], .cons hkey (.cons hval .nil), ⟨_, hT2, rfl, _, rfl⟩⟩
    have I1 : Inv X pins σ (upd H s.heap.objs.size (.tup [.ref q, v])) { s with heap := h'' } :=
      I.turnedNew (t' := s.toks) (ch := [it]) (fun b ob hb e => (sb.2 b (by simpa using hb)).trans (hk b ob (by simpa using hb) e)) hf (Nat.le_refl _) new
    refine ⟨.ref s.heap.objs.size, _, I1, rfl, ⟨_, q, k, v, hkv, rfl, I.hok.fresh (Nat.le_refl _), hq, rfl⟩, ⟨es'[i].key, es'[i].val, ?_⟩, fun b hb => ?_⟩
    · rw [← hsz]; exact he'
    · have e : b = it := by simpa using hb
      rw [e, upd_ne (Nat.ne_of_lt hlt)]
      exact (hf it (by simp)).1
  done := by
    intro X hP hw hK hc i pins s σ H E I hf st hg
    subst hP hw hK
    obtain ⟨hd, hi⟩ := hg
    obtain ⟨f0, f1, f2, f3, f4, f5⟩ := hf it (by simp)
    obtain ⟨hs, hgd, hx, es', ep', hdt, hsz, ent⟩ := frzT2 I hd
    obtain ⟨rfl, rfl⟩ := dict_ep hod hdt
    obtain ⟨ok, ov, he⟩ := st
    rw [← hsz] at he
    exact DT.endI (I.ok.hd hc) he ⟨o, hgd, hx, hdt⟩ (by omega) fun h' eb => ⟨rfl, I.turned (t' := s.toks) (fun b ob hb e => eb b ob hb e) f0 f1 f3 f4 f5⟩
  self := fun A i s Q E st h => let ⟨_, _, e⟩ := st; PySem.W.kcp_self e h
end
def iItemsT (td : TE) : TI := fun σ H R => td σ H fun x H1 => ∃ d o kvs, x = .ref d ∧ H1 d = some (.frz o (.dT kvs)) ∧ R (ItiT d o kvs) H1
section
variable {X : Cx} {tg e : Expr} {td : TE} {apos cpos : Pos}
theorem pi_itemsB {elts : List Expr} {kk : Nat} {tpos : Pos} (he : PE X e td) (hbase : attributeBase e "items" X.env (eval e X.env) = eval e X.env := by rfl) (hline : (apos.endLine == cpos.line) = true := by rfl) :
    PI X (.Tuple elts kk tpos) (.Call (.Attribute e "items" apos) [] [] cpos) (fun σ H R => td σ H fun x H1 => ∃ d o, x = .ref d ∧ ((∃ kvs, H1 d = some (.frz o (.dK kvs)) ∧ R (Iti d o kvs) H1) ∨ ∃ kvs, H1 d = some (.frz o (.dT kvs)) ∧ R (ItiT d o kvs) H1)) := by
  refine ⟨fun pins s σ H R I h => ?_⟩
  refine wpAny_Call_method (T := "dict") (id := "dict.items") hbase rfl hline PySem.F.plainAttrs_dict PySem.F.slot_dict_items PySem.F.type_dict_items (thn (he.run pins s σ H _ I h) fun u s1 ⟨x, H1, I1, rx, d, o, ex, q⟩ => ?_)
  subst ex
  obtain rfl : u = Value.ref d := rx
  have I2 : Inv X pins σ H1 { s1 with heap := s1.heap.push { cls := .type "dict_items", data := .fields #[.ref d] } } := I1.kept (t' := s1.toks) fun b ob q => Heap.get?_push_of_some _ q
  rcases q with ⟨kvs, hd, q⟩ | ⟨kvs, hd, q⟩
  · obtain ⟨hs, hgd, hx, es, ep, vs, hdt, hsz, kv, hm⟩ := I1.frzK hd
    have hl : kvs.length = vs.length := Paired.length kv
    refine ⟨hm.dictOf.typeIs, hm.dictOf.mapOf.noDict, ?_⟩
    have fin : wpAny (model X.prog X.w) X.A (pyIter (.ref s1.heap.objs.size)) (PIE X pins σ (.Tuple elts kk tpos) R) X.xe { s1 with heap := s1.heap.push { cls := .type "dict_items", data := .fields #[.ref d] } } := by
      refine wpAny_pyIter_items (d := d) (knd := mixKind X.prog X.w) ⟨_, Heap.get?_push_size _ rfl, rfl, rfl⟩ (hm.push _) (pi_one (tk := s1.toks) I2 _ (turn_items _ hdt) ⟨.none, .none, ?_⟩ q)
      rw [hl]
      exact Heap.get?_push_size _ rfl
    show wpAny _ _ (callWith cpos (.builtin "dict.items") [.ref d] [] []) _ X.xe s1
    exact method_meetsIn PySem.F.slot_dict_items PySem.F.entry_dict_items rfl (PySem.evalArgs_none ⟨rfl, hm.dictOf.typeIs, PySem.F.args_dict_items_1 _, _, meets_dict_items (mixKind X.prog X.w) d hs, ⟨vs, hm.dictOf⟩, fin⟩)
  · obtain ⟨hs, hgd, hx, es, ep, hdt, hsz, ent⟩ := frzT2 I1 hd
    have raw : DT.Raw s1.heap d es ep := ⟨o, hgd, hx, hdt⟩
    refine ⟨raw.typeIs, fun b e => ?_, ?_⟩
    · cases e
      exact ⟨o, hgd, hx.2.1⟩
    have fin : wpAny (model X.prog X.w) X.A (pyIter (.ref s1.heap.objs.size)) (PIE X pins σ (.Tuple elts kk tpos) R) X.xe { s1 with heap := s1.heap.push { cls := .type "dict_items", data := .fields #[.ref d] } } := by
      refine DT.iterI (d := d) (es := es) (ep := ep) ⟨_, Heap.get?_push_size _ rfl, rfl, rfl⟩ (raw.push _) (pi_one (tk := s1.toks) I2 _ (turn_itemsT _ hdt) ⟨.none, .none, ?_⟩ q)
      rw [← hsz]
      exact Heap.get?_push_size _ rfl
    show wpAny _ _ (callWith cpos (.builtin "dict.items") [.ref d] [] []) _ X.xe s1
    exact method_meetsIn PySem.F.slot_dict_items PySem.F.entry_dict_items rfl (PySem.evalArgs_none ⟨rfl, raw.typeIs, PySem.F.args_dict_items_1 _, _, DT.meetsItems (es := es) (ep := ep) hs, raw, fin⟩)
end
/-- the keys of the locked dict in slot i -/
def iKeysL (i : Nat) : SI := fun σ M => match σ[i]? with
  | some (some (.ref n)) => match M[n]? with
    | some (.dctF kvs) => .ok (.st (kvs.map fun kv => kD kv.1)) M
    | some (.dttF kvs) => .ok (.st (kvs.map fun kv => tD kv.1)) M
    | _ => .bad
  | _ => .bad
/-- its pairs -/
def iItemsL (i : Nat) : SI := fun σ M => match σ[i]? with
  | some (some (.ref n)) => match M[n]? with
    | some (.dctF kvs) => .ok (.st (kvs.map fun kv => .tup [kD kv.1, kv.2])) M
    | some (.dttF kvs) => .ok (.st (kvs.map fun kv => .tup [tD kv.1, kv.2])) M
    | _ => .bad
  | _ => .bad
theorem map_at {κ : Type} {kvs : List (κ × D)} {es : List (κ × V)} {i : Nat} {p : κ × D} (h : kvs.map (·.1) = es.map (·.1)) (e : kvs[i]? = some p) : ∃ v, es[i]? = some (p.1, v) := by
  have h1 : (kvs.map (·.1))[i]? = some p.1 := by rw [List.getElem?_map, e]; rfl
  rw [h, List.getElem?_map] at h1
  cases q : es[i]? with
  | none => rw [q] at h1; cases h1
  | some r => rw [q] at h1; have e := Option.some.inj h1; exact ⟨r.2, by rw [← e]⟩
theorem dens_at {K : PySem.W.Frag} {ρ : Nu} {H : Hp} {κ : Type} {kvs : List (κ × D)} {es : List (κ × V)} {i : Nat} {p : κ × D} {q : κ × V} (t : Dens K ρ H (kvs.map (·.2)) (es.map (·.2))) (e1 : kvs[i]? = some p) (e2 : es[i]? = some q) : Den K ρ H p.2 q.2 :=
  t.two (i := i) (by rw [List.getElem?_map, e1]; rfl) (by rw [List.getElem?_map, e2]; rfl)
theorem len_at {κ : Type} {kvs : List (κ × D)} {es : List (κ × V)} (h : kvs.map (·.1) = es.map (·.1)) : kvs.length = es.length := by
  have := congrArg List.length h; simpa using this
section
variable {X : Cx} {E : XK}
theorem ji_keysL {tg e : Expr} {i : Nat} (he : JE X E e (fVar i)) : JI X E tg e (iKeysL i) := by
  refine PI.weak (pi_keys he) fun σ H R ⟨ρ, M, σd, Rr, en, hp⟩ => ⟨ρ, M, σd, Rr, en, ?_⟩
  unfold iKeysL at hp
  split at hp
  · rename_i n en1
    have ev : fVar i σd M = .ok (.ref n) M := by unfold fVar; rw [en1]
    rw [ev]
    split at hp
    · rename_i kvs eM
      intro ρ1 H1 x1 R1 v rv
      cases rv with
      | ref hr =>
        rename_i a
        obtain ⟨es, od, h1, h2, t⟩ := R1.obj _ _ _ hr eM
        refine ⟨a, od, rfl, .inl ⟨es, h1, hp ρ1 H1 x1 R1 _ (itOk_st fun ρ2 M2 H2 x2 R2 => ?_)⟩⟩
        have h3 : H2 a = some (.frz od (.dK es)) := x2.keep a _ h1 (.inr ⟨_, _, rfl⟩)
        refine ⟨fun j d hj => ?_, h3, by rw [List.length_map, len_at h2]; exact Nat.le_refl _⟩
        rw [List.getElem?_map] at hj
        cases q : kvs[j]? with
        | none => rw [q] at hj; cases hj
        | some p =>
          rw [q] at hj; cases hj
          obtain ⟨w, hw⟩ := map_at h2 q
          refine ⟨⟨h3, (List.getElem?_eq_some_iff.mp hw).1⟩, fun y H' ⟨e1, k, u, hk, ey⟩ => ?_⟩
          subst e1 ey
          rw [hw] at hk; cases hk
          exact ⟨.refl, R2, den_kD _⟩
    · rename_i kvs eM
      intro ρ1 H1 x1 R1 v rv
      cases rv with
      | ref hr =>
        rename_i a
        obtain ⟨es, od, h1, h2, t⟩ := R1.obj _ _ _ hr eM
        refine ⟨a, od, rfl, .inr ⟨es, h1, hp ρ1 H1 x1 R1 _ (itOk_st fun ρ2 M2 H2 x2 R2 => ?_)⟩⟩
        have h3 : H2 a = some (.frz od (.dT es)) := x2.keep a _ h1 (.inr ⟨_, _, rfl⟩)
        refine ⟨fun j d hj => ?_, h3, by rw [List.length_map, len_at h2]; exact Nat.le_refl _⟩
        rw [List.getElem?_map] at hj
        cases q : kvs[j]? with
        | none => rw [q] at hj; cases hj
        | some p =>
          rw [q] at hj; cases hj
          obtain ⟨w, hw⟩ := map_at h2 q
          refine ⟨⟨h3, (List.getElem?_eq_some_iff.mp hw).1⟩, fun y H' ⟨e1, k, u, b, hk, ey, hb⟩ => ?_⟩
          subst e1 ey
          rw [hw] at hk; cases hk
          exact ⟨.refl, R2, .tup (.inl hb) (dens_kD _)⟩
    · exact hp.elim
  · exact hp.elim
theorem ji_itemsL {e : Expr} {elts : List Expr} {kk : Nat} {tpos apos cpos : Pos} {i : Nat} (he : JE X E e (fVar i)) (hbase : attributeBase e "items" X.env (eval e X.env) = eval e X.env := by rfl) (hline : (apos.endLine == cpos.line) = true := by rfl) :
    JI X E (.Tuple elts kk tpos) (.Call (.Attribute e "items" apos) [] [] cpos) (iItemsL i) := by
  refine PI.weak (pi_itemsB he hbase hline) fun σ H R ⟨ρ, M, σd, Rr, en, hp⟩ => ⟨ρ, M, σd, Rr, en, ?_⟩
  unfold iItemsL at hp
  split at hp
  · rename_i n en1
    have ev : fVar i σd M = .ok (.ref n) M := by unfold fVar; rw [en1]
    rw [ev]
    split at hp
    · rename_i kvs eM
      intro ρ1 H1 x1 R1 v rv
      cases rv with
      | ref hr =>
        rename_i a
        obtain ⟨es, od, h1, h2, t⟩ := R1.obj _ _ _ hr eM
        refine ⟨a, od, rfl, .inl ⟨es, h1, hp ρ1 H1 x1 R1 _ (itOk_st fun ρ2 M2 H2 x2 R2 => ?_)⟩⟩
        have h3 : H2 a = some (.frz od (.dK es)) := x2.keep a _ h1 (.inr ⟨_, _, rfl⟩)
        refine ⟨fun j d hj => ?_, h3, by rw [List.length_map, len_at h2]; exact Nat.le_refl _⟩
        rw [List.getElem?_map] at hj
        cases q : kvs[j]? with
        | none => rw [q] at hj; cases hj
        | some p =>
          rw [q] at hj; cases hj
          obtain ⟨w, hw⟩ := map_at h2 q
          have dw := (dens_at t q hw).extR R1 x2
          refine ⟨⟨h3, (List.getElem?_eq_some_iff.mp hw).1⟩, fun y H' ⟨T, k, u, hk, ey, hT, e1⟩ => ?_⟩
          subst e1 ey
          rw [hw] at hk; cases hk
          exact ⟨.laid hT, R2.laid hT, .tup (.inl upd_same) (.cons (den_kD _) (.cons (dw.ext R2 (.laid hT)) .nil))⟩
    · rename_i kvs eM
      intro ρ1 H1 x1 R1 v rv
      cases rv with
      | ref hr =>
        rename_i a
        obtain ⟨es, od, h1, h2, t⟩ := R1.obj _ _ _ hr eM
        refine ⟨a, od, rfl, .inr ⟨es, h1, hp ρ1 H1 x1 R1 _ (itOk_st fun ρ2 M2 H2 x2 R2 => ?_)⟩⟩
        have h3 : H2 a = some (.frz od (.dT es)) := x2.keep a _ h1 (.inr ⟨_, _, rfl⟩)
        refine ⟨fun j d hj => ?_, h3, by rw [List.length_map, len_at h2]; exact Nat.le_refl _⟩
        rw [List.getElem?_map] at hj
        cases q : kvs[j]? with
        | none => rw [q] at hj; cases hj
        | some p =>
          rw [q] at hj; cases hj
          obtain ⟨w, hw⟩ := map_at h2 q
          have dw := (dens_at t q hw).extR R1 x2
          refine ⟨⟨h3, (List.getElem?_eq_some_iff.mp hw).1⟩, fun y H' ⟨T, b, k, u, hk, ey, hT, hb, e1⟩ => ?_⟩
          subst e1 ey
          rw [hw] at hk; cases hk
          have dk : Den X.K ρ2 H2 (tD p.1) (.ref b) := .tup (.inl hb) (dens_kD _)
          exact ⟨.laid hT, R2.laid hT, .tup (.inl upd_same) (.cons (dk.ext R2 (.laid hT)) (.cons (dw.ext R2 (.laid hT)) .nil))⟩
    · exact hp.elim
  · exact hp.elim
end
end KP

/-! dicts whose keys are tuples -/
namespace KP
open PySem PySem.Spec PyProof.Rows L2
/-! ### keys -/
def keysOf : List D → Option (List Key)
  | [] => some []
  | d :: ds => match keyO d, keysOf ds with
    | some k, some ks => some (k :: ks)
    | _, _ => none
/-- the key that a tuple of the run's own is -/
def keyT : D → Option (List Key)
  | .tup ds => if strsB ds = true then none else keysOf ds
  | _ => none
theorem keysOf_ok {K : PySem.W.Frag} {ρ : Nu} {H : Hp} : ∀ {ds : List D} {vs : List V} {ks : List Key}, Dens K ρ H ds vs → keysOf ds = some ks → vs = ks.map kV
  | _, _, _, .nil, e => by cases e; rfl
  | _, _, ks, .cons r t, e => by
    unfold keysOf at e
    split at e
    · rename_i k ks' h1 h2
      cases e
      rw [keyO_ok r h1, keysOf_ok t h2]; rfl
    · cases e
theorem keyT_ok {K : PySem.W.Frag} {ρ : Nu} {H : Hp} {d : D} {v : V} {ks : List Key} (r : Den K ρ H d v) (h : keyT d = some ks) : ∃ b, v = .ref b ∧ H b = some (.tup (ks.map kV)) := by
  unfold keyT at h
  split at h
  · split at h
    · cases h
    · rename_i hs
      cases r with
      | tup hq t =>
        rcases hq with hq | hq
        · exact ⟨_, rfl, by rw [← keysOf_ok t h]; exact hq⟩
        · exact absurd hq.2 hs
  · cases h
/-- its entries, to be read -/
def dttO (d : D) (M : Mem) : Option (Nat × List (List Key × D)) := match d with
  | .ref n => match M[n]? with
    | some (.dtt kvs) => some (n, kvs)
    | some (.dttF kvs) => some (n, kvs)
    | _ => none
  | _ => none
/-- .. to be written -/
def dttW (d : D) (M : Mem) : Option (Nat × List (List Key × D)) := match d with
  | .ref n => match M[n]? with
    | some (.dtt kvs) => some (n, kvs)
    | _ => none
  | _ => none
theorem dttO_some {K : PySem.W.Frag} {ρ : Nu} {M : Mem} {H : Hp} {d : D} {v : V} {n : Nat} {kvs : List (List Key × D)} (R : Rep K ρ M H) (r : Den K ρ H d v) (h : dttO d M = some (n, kvs)) : ∃ a es, v = .ref a ∧ ρ.num[n]? = some a ∧ Rd H a (.dT es) ∧ Ents K ρ H kvs es := by
  unfold dttO at h
  split at h
  · split at h
    · rename_i kvs' e
      cases h
      cases r with
      | ref hr =>
        obtain ⟨es, h1, h2, h3⟩ := R.obj _ _ _ hr e
        exact ⟨_, es, rfl, hr, .inl h1, ⟨h2, h3⟩⟩
    · rename_i kvs' e
      cases h
      cases r with
      | ref hr =>
        obtain ⟨es, od, h1, h2, h3⟩ := R.obj _ _ _ hr e
        exact ⟨_, es, rfl, hr, .inr ⟨od, h1⟩, ⟨h2, h3⟩⟩
    · cases h
  · cases h
theorem dttW_some {K : PySem.W.Frag} {ρ : Nu} {M : Mem} {H : Hp} {d : D} {v : V} {n : Nat} {kvs : List (List Key × D)} (R : Rep K ρ M H) (r : Den K ρ H d v) (h : dttW d M = some (n, kvs)) : ∃ a es, v = .ref a ∧ ρ.num[n]? = some a ∧ H a = some (.dT es) ∧ Ents K ρ H kvs es ∧ M[n]? = some (.dtt kvs) := by
  unfold dttW at h
  split at h
  · split at h
    · rename_i kvs' e
      cases h
      cases r with
      | ref hr =>
        obtain ⟨es, h1, h2, h3⟩ := R.obj _ _ _ hr e
        exact ⟨_, es, rfl, hr, h1, ⟨h2, h3⟩, e⟩
    · cases h
  · cases h
theorem get_t {H : Hp} {a b : Addr} {es : List (List Key × V)} {k : List Key} (e : Rd H a (.dT es)) (eb : H b = some (.tup (k.map kV))) : DGet H a (.ref b) (valV es k) := .inr ⟨es, k, b, e, rfl, eb, rfl⟩
section
variable {X : Cx} {E : XK}
/-- {}, to have tuples as keys -/
def fDttN : SF := fun _ M => .ok (.ref M.length) (M ++ [.dtt []])
theorem je_dtt {pos : Pos} : JE X E (.Dict [] [] pos) fDttN := by
  refine PE.weak pe_dnewT fun σ H Q ⟨ρ, M, σd, R, en, hp⟩ p np => ?_
  have R' : Rep X.K (ρ.push p) (M ++ [.dtt []]) (upd H p (.dT [])) := R.new np ⟨[], upd_same, rfl, .nil⟩
  refine hp _ _ (Ext.new np) R' _ (.ref ?_)
  show (ρ.num ++ [p])[M.length]? = some p
  rw [← R.len]; simp
/-- d[k] -/
def ixT (x i : D) (M : Mem) : Option D := match dttO x M, keyT i with
  | some (_, kvs), some k => getK kvs k
  | _, _ => none
theorem ox_ixT (hu : X.A.units + 1 < cLine) : IxR X (rD X.K X.mg E (pure2 ixT)) := by
  intro value slice pins s σ H x y v u Q I rx ry h hsub
  obtain ⟨ρ, M, dx, dy, R, r1, r2, hp⟩ := h
  obtain ⟨d, e, hp2⟩ := pure2_post hp
  unfold ixT at e
  split at e
  · rename_i n kvs k hd hk
    obtain ⟨a, es, rfl, hr, h1, t⟩ := dttO_some R r1 hd
    obtain ⟨w, hw, rw'⟩ := (t.get.1 _ e)
    obtain ⟨b, rfl, hb⟩ := keyT_ok r2 hk
    cases rx
    have g : DGet H a (.ref b) (some w) := by rw [← hw]; exact get_t h1 hb
    exact tail_any (dict_typeIs I g) PySem.F.slot_dict_getitem.lookup (d_getItem hu I g ry fun w' s3 I3 rw3 => ⟨w, H, I3, rw3, hp2.here R _ rw'⟩) hsub
  · cases e
theorem je_ixT {a b : Expr} {fa fb : SF} {pos : Pos} (hu : X.A.units + 1 < cLine) (ha : JE X E a fa) (hb : JE X E b fb) (hs : PlainIx b := by intro _ _; rfl) : JE X E (.Subscript a b pos) (fBin (pure2 ixT) fa fb) :=
  PE.weak (pe_ix (ox_ixT hu) ha hb hs) fun σ H Q h => tOp_of h
/-- k in d -/
def inT (x c : D) (M : Mem) : Option Bool := match dttO c M, keyT x with
  | some (_, kvs), some k => some (getK kvs k).isSome
  | _, _ => none
def dInT := pure2 fun x y M => bO (inT x y M)
def dNotInT := pure2 fun x y M => nbO (inT x y M)
theorem inT_some {x c : D} {M : Mem} {b : Bool} (h : inT x c M = some b) : ∃ n kvs k, dttO c M = some (n, kvs) ∧ keyT x = some k ∧ b = (getK kvs k).isSome := by
  unfold inT at h
  split at h
  · rename_i n kvs k hd hk
    cases h; exact ⟨n, kvs, k, hd, hk, rfl⟩
  · cases h
theorem od_inT (hu : X.A.units + 65 < cLine) : OpR X (compareOp .In) (rD X.K X.mg E dInT) := by
  intro pins s σ H x y v u Q I rx ry h
  obtain ⟨ρ, M, dx, dy, R, r1, r2, hp⟩ := h
  obtain ⟨d, e0, hp2⟩ := pure2_post hp
  obtain ⟨b, e, hd⟩ := bO_some e0
  obtain ⟨n, kvs, k, h1, h2, rfl⟩ := inT_some e
  obtain ⟨a, es, rfl, hr, h3, t⟩ := dttO_some R r2 h1
  obtain ⟨b, rfl, hb⟩ := keyT_ok r1 h2
  subst hd
  cases ry
  refine d_in (by omega) I (get_t h3 hb) rx fun s3 I3 => ⟨.bl _, H, I3, rfl, ?_⟩
  rw [t.isSome]
  exact hp2.here R _ (.bl _)
theorem od_notInT (hu : X.A.units + 65 < cLine) : OpR X (compareOp .NotIn) (rD X.K X.mg E dNotInT) := by
  intro pins s σ H x y v u Q I rx ry h
  obtain ⟨ρ, M, dx, dy, R, r1, r2, hp⟩ := h
  obtain ⟨d, e0, hp2⟩ := pure2_post hp
  obtain ⟨b, e, hd⟩ := nbO_some e0
  obtain ⟨n, kvs, k, h1, h2, rfl⟩ := inT_some e
  obtain ⟨a, es, rfl, hr, h3, t⟩ := dttO_some R r2 h1
  obtain ⟨b, rfl, hb⟩ := keyT_ok r1 h2
  subst hd
  cases ry
  refine d_notIn (by omega) I (get_t h3 hb) rx fun s3 I3 => ⟨.bl _, H, I3, rfl, ?_⟩
  rw [t.isSome]
  exact hp2.here R _ (.bl _)
/-- d[k] = v -/
def setT (o i v : D) (M : Mem) : Option Mem := match dttW o M, keyT i with
  | some (n, kvs), some k => if kvs.length < 16777216 then some (M.set n (.dtt (putD kvs k v))) else none
  | _, _ => none
theorem os_setT (hu : X.A.units + 1 < cLine) : PSet X (fun o i v H Q => ∃ ρ M d1 d2 d3, Rep X.K ρ M H ∧ Den X.K ρ H d1 o ∧ Den X.K ρ H d2 i ∧ Den X.K ρ H d3 v ∧ ∃ M', setT d1 d2 d3 M = some M' ∧ ∀ ρ' H', Ext ρ H ρ' H' → Rep X.K ρ' M' H' → Q H') := by
  intro pins s σ H o i v ov iv u Q I ro ri rv h
  obtain ⟨ρ, M, d1, d2, d3, R, r1, r2, r3, M', e, q⟩ := h
  unfold setT at e
  split at e
  · rename_i n kvs k hd hk
    split at e
    · rename_i hl
      cases e
      obtain ⟨a, es, rfl, hr, h3, t, hM⟩ := dttW_some R r1 hd
      obtain ⟨b, rfl, hb⟩ := keyT_ok r2 hk
      have hl' : es.length < sizeLine := by rw [← t.length]; exact hl
      refine set_dict hu pins s σ H _ _ v ov iv u Q I ro ri rv ⟨a, _, rfl, DPut.t h3 hb hl', ?_⟩
      have x : Ext ρ H ρ (upd H a (.dT (putK es k v))) := .write (List.mem_of_getElem? hr) (nfz h3)
      have t2 := (t.ext R x).put (k := k) (r3.ext R x)
      exact q ρ _ x (R.write hr (nfz h3) ⟨_, upd_same, t2.1, t2.2⟩)
    · cases e
  · cases e
def gSubT (fo fi : SF) : SG := fun d σ M => (fo σ M).bind fun o M1 => (fi σ M1).bind fun i M2 => match setT o i d M2 with
  | some M3 => .ok σ M3
  | none => .bad
theorem jg_subT {o i : Expr} {fo fi : SF} {pos : Pos} (hu : X.A.units + 1 < cLine) (ho : JE X E o fo) (hi : JE X E i fi) (ha : ∀ v, assign (.Subscript o i pos) X.env v = (do
      let ov ← holding [v] (eval o X.env)
      let iv ← holding [v, ov] (eval i X.env)
      standAt pos
      holding [v, ov, iv] (setItem ov iv v)
      release [v, ov, iv] []) := by intro _; rfl) : JG X E [] (.Subscript o i pos) (gSubT fo fi) := by
  refine PG.weak (pg_sub ho hi (os_setT hu) ha) fun v σ H Q ⟨ρ, M, σd, d, R, en, rd, hp⟩ => ?_
  refine ⟨ρ, M, σd, R, en, hp.bind.imp fun o' M1 ρ1 H1 x1 R1 hp1 ov ro => ?_⟩
  refine ⟨ρ1, M1, σd, R1, en.ext R x1, hp1.bind.imp fun i' M2 ρ2 H2 x2 R2 hp2 iv ri => ?_⟩
  refine ⟨ρ2, M2, o', i', d, R2, ro.ext R1 x2, ri, (rd.ext R x1).ext R1 x2, ?_⟩
  split at hp2
  · rename_i M3 e
    exact ⟨M3, e, fun ρ' H' x R' => hp2 ρ' H' x R' σ (((en.ext R x1).ext R1 x2).ext R2 x) .refl⟩
  · exact hp2.elim
/-- d.get(k), d.get(k, x) -/
def mGetT : D → List D → Mem → Out D := fun o ds M => match dttO o M, ds with
  | some (_, kvs), [i] => match keyT i with
    | some k => .ok ((getK kvs k).getD .non) M
    | none => .bad
  | some (_, kvs), [i, x] => match keyT i with
    | some k => .ok ((getK kvs k).getD x) M
    | none => .bad
  | _, _ => .bad
theorem om_getT (hu : X.A.units + 1 < cLine) : MtR X "dict.get" (rM X.K X.mg E mGetT) := by
  intro pins s σ H x xs v us Q I rx rxs h
  obtain ⟨ρ, M, d, ds, R, r, rs, hp⟩ := h
  unfold mGetT at hp
  split at hp
  · rename_i n kvs i hd
    obtain ⟨w1, rfl, q1⟩ := dens1 rs
    split at hp
    · rename_i k hk
      obtain ⟨a, es, rfl, hr, h3, t⟩ := dttO_some R r hd
      obtain ⟨b, rfl, hb⟩ := keyT_ok q1 hk
      obtain ⟨u1, rfl, ru1⟩ := vals1 rxs
      cases rx
      exact d_get1 hu I (get_t h3 hb) ru1 fun w' s3 I3 rw' => ⟨_, H, I3, rw', hp.here R _ (t.getD .non)⟩
    · exact hp.elim
  · rename_i n kvs i y hd
    obtain ⟨w1, w2, rfl, q1, q2⟩ := dens2 rs
    split at hp
    · rename_i k hk
      obtain ⟨a, es, rfl, hr, h3, t⟩ := dttO_some R r hd
      obtain ⟨b, rfl, hb⟩ := keyT_ok q1 hk
      obtain ⟨u1, u2, rfl, ru1, ru2⟩ := vals2 rxs
      cases rx
      exact d_get2 hu I (get_t h3 hb) ru1 ru2 fun w' s3 I3 rw' => ⟨_, H, I3, rw', hp.here R _ (t.getD q2)⟩
    · exact hp.elim
  · exact hp.elim
end
/-! ### displays -/
def keysT : List (D × D) → Option (List (List Key × D))
  | [] => some []
  | p :: ps => match keyT p.1, keysT ps with
    | some k, some r => some ((k, p.2) :: r)
    | _, _ => none
/-- the pairs, their keys as tuples that stand there -/
def PT (H : Hp) : List (V × V) → List (List Key × V) → Prop
  | [], [] => True
  | p :: ps, q :: qs => (∃ b, p.1 = .ref b ∧ H b = some (.tup (q.1.map kV))) ∧ p.2 = q.2 ∧ PT H ps qs
  | _, _ => False
theorem keysT_ok {K : PySem.W.Frag} {ρ : Nu} {H : Hp} : ∀ {prs : List (D × D)} {vs : List (V × V)} {kvs : List (List Key × D)}, DensP K ρ H prs vs → keysT prs = some kvs → ∃ es : List (List Key × V), PT H vs es ∧ Ents K ρ H kvs es
  | [], [], kvs, _, e => by cases e; exact ⟨[], True.intro, .nil⟩
  | [], _ :: _, _, h, _ => h.elim
  | _ :: _, [], _, h, _ => h.elim
  | p :: ps, v :: vs, kvs, ⟨r1, r2, t⟩, e => by
    unfold keysT at e
    split at e
    · rename_i k r hk hr
      cases e
      obtain ⟨es, h, q⟩ := keysT_ok t hr
      obtain ⟨b, e1, e2⟩ := keyT_ok r1 hk
      exact ⟨(k, v.2) :: es, ⟨⟨b, e1, e2⟩, rfl, h⟩, q.cons r2⟩
    · cases e
def mergeT (kvs more : List (List Key × V)) : List (List Key × V) := more.foldl (fun acc kv => putK acc kv.1 kv.2) kvs
theorem Ents.mergeT {K : PySem.W.Frag} {ρ : Nu} {H : Hp} : ∀ {more : List (List Key × D)} {me : List (List Key × V)} {kvs : List (List Key × D)} {es : List (List Key × V)}, Ents K ρ H more me → Ents K ρ H kvs es → Ents K ρ H (mergeD kvs more) (KP.mergeT es me)
  | [], me, kvs, es, h, t => by
    have : me = [] := by cases me with
      | nil => rfl
      | cons _ _ => have := h.1; cases this
    subst this; exact t
  | p :: more, me, kvs, es, h, t => by
    obtain ⟨v, me', rfl, r, h'⟩ := h.inv
    exact Ents.mergeT (kvs := putD kvs p.1 p.2) (es := putK es p.1 v) h' (t.put r)
theorem PT.length {H : Hp} : ∀ {ps : List (V × V)} {qs : List (List Key × V)}, PT H ps qs → ps.length = qs.length
  | [], [], _ => rfl
  | [], _ :: _, h => h.elim
  | _ :: _, [], h => h.elim
  | _ :: _, _ :: _, ⟨_, _, t⟩ => by simp [PT.length t]
theorem carriesT {P : Program} {w : World} {H : Hp} {h : Heap} (ok : HOk P w H h) : ∀ {ps : List (V × V)} {qs : List (List Key × V)} {ws : List (Value × Value)}, PT H ps qs → VV ps ws → ∃ rs, CarriesH (tupleKind (mixKind P w)) h ws rs ∧ KT H qs rs
  | [], [], _, _, r => by cases r; exact ⟨[], True.intro, .nil⟩
  | [], _ :: _, _, h, _ => h.elim
  | _ :: _, [], _, h, _ => h.elim
  | p :: ps, q :: qs, ws, ⟨⟨b, e1, e2⟩, e3, t⟩, r => by
    cases r with
    | @cons a b2 as bs h2 t2 =>
      obtain ⟨rs, c, k⟩ := carriesT ok t t2
      obtain ⟨b1, b2⟩ := b2
      obtain ⟨r1, r2⟩ := h2
      rw [e1] at r1
      cases (show b1 = Value.ref b from r1)
      exact ⟨(q.1, b, b2) :: rs, ⟨rfl, rfl, key_of ok e2, c⟩, .cons ⟨rfl, e2, by rw [← e3]; exact r2⟩ k⟩
theorem KT.merge {H : Hp} : ∀ {more : List (List Key × V)} {rs : List (List Key × Addr × Value)} {kvs : List (List Key × V)} {xs : List (List Key × Addr × Value)}, KT H more rs → KT H kvs xs → KT H (mergeT kvs more) (storedAllH xs rs)
  | [], _, kvs, xs, .nil, t => t
  | p :: more, _, kvs, xs, .cons (b := q) h r, t => by
    have : KT H (putK kvs p.1 p.2) (storedH xs q.1 q.2.1 q.2.2) := by
      have := KT.put t p.1 h.2.1 h.2.2
      rw [← h.1]; exact this
    exact KT.merge (more := more) (kvs := putK kvs p.1 p.2) (xs := storedH xs q.1 q.2.1 q.2.2) r this
theorem mergeT_len : ∀ (more kvs : List (List Key × V)), (mergeT kvs more).length ≤ kvs.length + more.length
  | [], kvs => by show kvs.length ≤ kvs.length + 0; omega
  | p :: r, kvs => by
    have h1 := mergeT_len r (putK kvs p.1 p.2)
    have h2 := length_putK kvs p.1 p.2
    show (mergeT (putK kvs p.1 p.2) r).length ≤ _
    rw [List.length_cons]; omega
def tDispT (trs : List (TE × TE)) : TE := fun σ H Q => ∀ p, H p = none → tPairs trs σ (upd H p (.dT [])) fun ps H2 => H2 p = some (.dT []) ∧ ∃ kvs : List (List Key × V), PT H2 ps kvs ∧ kvs.length ≤ 15 ∧ Q (.ref p) (upd H2 p (.dT (mergeT [] kvs)))
theorem pe_dispT {X : Cx} {pos : Pos} {keys : List (Option Expr)} {values : List Expr} {trs : List (TE × TE)} (hu : X.A.units + 1 < cLine) (h : PPs X pos keys values trs) (hall : keys.all (·.isSome) = true) (hl : keys.length = values.length) (h0 : keys ≠ [])
    (h15 : keys.length ≤ 15) : PE X (.Dict keys values pos) (tDispT trs) := by
  refine ⟨fun pins s σ H Q I q => ?_⟩
  have hn := I.hok.fresh (Nat.le_refl s.heap.objs.size)
  have I1 := I.laid (a := s.heap.objs.size) (o := .dT []) (h' := s.heap.push { cls := .type "dict", data := .dict #[] }) (t' := s.toks) (fun _ _ q => Heap.get?_push_of_some _ q) (Nat.le_refl _) (dt_empty s.heap I.big)
  have hlen := pairTrees_length keys values X.env pos hall hl
  have hsh := zip_pairTrees keys values X.env pos hall hl
  have hp0 : pairTrees keys values X.env pos ≠ [] := fun he => h0 (List.length_eq_zero_iff.mp (by rw [← hlen, he]; rfl))
  rw [arm_eval_Dict, hsh, dictDisplay_pairs _ hp0 (by omega)]
  refine wpAny_bind (wpAny_standAt (wpAny_bind (wpAny_subDictH (knd := tupleKind (mixKind X.prog X.w)) (Q := fun d s' => wpAny (model X.prog X.w) X.A (pure (Value.ref d)) (EP X pins σ Q) X.xe s') (show X.A.units < cLine by omega) (by omega) ?_)))
  refine thn (h.run pins _ σ _ _ I1 (q _ hn)) fun ws s2 ⟨ps, H2, I2, rel, e, kvs, ep, lk, q2⟩ => ?_
  obtain ⟨rs, c, rk⟩ := carriesT I2.hok ep rel
  obtain ⟨z, hd, xs0, r0, dd⟩ := dt_of I2.hok e
  cases r0
  refine ⟨rs, c, dd, fun h' tk dd' hs => wpAny_pure ⟨.ref s.heap.objs.size, _, ?_, rfl, q2⟩⟩
  obtain ⟨o, es, ep', hq, h2, h3, h4, _, h5⟩ := dd'
  have hl2 : (mergeT [] kvs).length ≤ sizeLine := by
    have h1 := mergeT_len kvs []
    rw [List.length_nil] at h1
    rw [sizeLine_eq]; omega
  refine d_write I2 (by rw [e]; exact True.intro) hs ⟨o, hq⟩ ⟨hl2, hd, _, (KT.merge rk .nil).keeps fun c ys ec => ?_, o, es, ep', hq, h2, h3, h4, h5⟩
  rw [upd_ne (ne_of ec e (fun z => nomatch z))]
  exact ec
/-- {k: v, ..}, the keys tuples -/
def fDispT (ps : List (SF × SF)) : SF := fun σ M => (fPairs ps σ (M ++ [.dtt []])).bind fun prs M1 => match M1[M.length]? with
  | some (.dtt []) => match keysT prs with
    | some kvs => if kvs.length ≤ 15 then .ok (.ref M.length) (M1.set M.length (.dtt (mergeD [] kvs))) else .bad
    | none => .bad
  | _ => .bad
section
variable {X : Cx} {E : XK}
theorem je_dispT {pos : Pos} {keys : List (Option Expr)} {values : List Expr} {ps : List (SF × SF)} (hu : X.A.units + 1 < cLine) (h : JPs X E pos keys values ps) (hall : keys.all (·.isSome) = true := by rfl) (hl : keys.length = values.length := by rfl) (h0 : keys ≠ [] := by intro z; cases z)
    (h15 : keys.length ≤ 15 := by decide) : JE X E (.Dict keys values pos) (fDispT ps) := by
  refine PE.weak (pe_dispT hu h hall hl h0 h15) fun σ H Q ⟨ρ, M, σd, R, en, hp⟩ p np => ?_
  have xn : Ext ρ H (ρ.push p) (upd H p (.dT [])) := Ext.new np
  have Rn : Rep X.K (ρ.push p) (M ++ [.dtt []]) (upd H p (.dT [])) := R.new np ⟨[], upd_same, rfl, .nil⟩
  have ixp : (ρ.push p).num[M.length]? = some p := by simp [Nu.push, ← R.len]
  refine tPairs_of Rn (en.ext R xn) ((Post.from hp xn).bind.imp fun prs M1 ρ1 H1 x1 R1 hp1 vs dv => ?_)
  split at hp1
  · rename_i eM
    split at hp1
    · rename_i kvs ek
      split at hp1
      · rename_i hl15
        have ix1 := x1.get ixp
        obtain ⟨es0, h1, h2, _⟩ := R1.obj _ _ _ ix1 eM
        have e0 : es0 = [] := by cases es0 with
          | nil => rfl
          | cons _ _ => cases h2
        subst e0
        obtain ⟨es, pt, q⟩ := keysT_ok dv ek
        refine ⟨h1, es, pt, by rw [← q.length]; exact hl15, ?_⟩
        have xw : Ext ρ1 H1 ρ1 (upd H1 p (.dT (KP.mergeT [] es))) := .write (List.mem_of_getElem? ix1) (nfz h1)
        have q2 := Ents.mergeT (q.ext R1 xw) (.nil : Ents X.K ρ1 (upd H1 p (.dT (KP.mergeT [] es))) [] [])
        exact hp1 _ _ xw (R1.write ix1 (nfz h1) ⟨_, upd_same, q2.1, q2.2⟩) _ (.ref ix1)
      · exact hp1.elim
    · exact hp1.elim
  · exact hp1.elim
/-- len(d) -/
def cLenT : List D → Mem → Option D := fun ds M => match ds with
  | [x] => match dttW x M with
    | some (_, kvs) => some (.int kvs.length)
    | none => none
  | _ => none
end
end KP

/-! dict comprehensions -/
namespace KP
open PySem PySem.Spec PyProof.Rows L2
/-- d[k] = v, the key a tuple that stands there, by a comprehension -/
theorem dictSetT {X : Cx} {pins : List (Addr × Obj)} {σ : L2.St} {H : Hp} {s : Shared} {E : Value → Shared → Prop} {D b : Addr} {kvs : List (List Key × V)} {k : List Key} {v : V} {r : Value} {Q : Unit → Shared → Prop} (hu : X.A.units + 1 < cLine) (I : Inv X pins σ H s) (hD : H D = some (.dT kvs))
    (hz : kvs.length < sizeLine) (hb : H b = some (.tup (k.map kV))) (rv : RelV v r) (h : ∀ s', Inv X pins σ (upd H D (.dT (putK kvs k v))) s' → Q () s') : wpAny (model X.prog X.w) X.A (dictSet D (.ref b) r) Q E s := by
  obtain ⟨z, hd, xs, rel, dd⟩ := dt_of I.hok hD
  have hx : xs.length ≤ sizeLine := by rw [← Paired.length rel]; exact z
  have hl : (putK kvs k v).length ≤ sizeLine := by have := length_putK kvs k v; omega
  refine wpAny_dictSet_heap (hsz := hx) (show X.A.units < cLine by omega) (key_of I.hok hb) dd fun h' dd' hs => h _ ?_
  obtain ⟨q, es, ep, hq, h2, h3, h4, _, h5⟩ := dd'
  refine d_write I (by rw [hD]; exact True.intro) hs ⟨q, hq⟩ ⟨hl, hd, _, (rel.put k hb rv).keeps fun c ys ec => ?_, q, es, ep, hq, h2, h3, h4, h5⟩
  rw [upd_ne (ne_of ec hD (fun z => nomatch z))]
  exact ec
/-- one turn -/
def TurnDT (D : Addr) (g : TG) (tt : TT) (tk tv : TE) (vs : List Nat) (σ : L2.St) (x : V) (Nx : Hp → Prop) (H : Hp) : Prop :=
  g x (wipe σ vs) H fun σ2 H2 => wipe σ2 vs = wipe σ vs ∧ tt σ2 H2 fun b H3 => if b = true then
    tk σ2 H3 fun y H4 => tv σ2 H4 fun z H5 => ∃ (kvs : List (List Key × V)) (k : List Key) (b : Addr), y = .ref b ∧ H5 b = some (.tup (k.map kV)) ∧ H5 D = some (.dT kvs) ∧ kvs.length < sizeLine ∧ Nx (upd H5 D (.dT (putK kvs k z)))
  else Nx H3
def tDcT (wi : TI) (g : TG) (tt : TT) (tk tv : TE) (vs : List Nat) : TE := fun σ H Q =>
  wi σ H fun J H1 => ∀ D, H1 D = none → ∃ W : Nat → Nat → Hp → Prop, (∃ m, W 0 m (upd H1 D (.dT []))) ∧ ∀ i m H, W i m H →
    (J.stop i H ∧ Q (.ref D) H) ∨ (J.go i H ∧ ∃ Nx : Hp → Prop, (∀ H', Nx H' → ∃ m', m' < m ∧ W (i + 1) m' H') ∧ ∀ x H', J.yld i H x H' → TurnDT D g tt tk tv vs σ x Nx H')
section
variable {X : Cx}
theorem pe_dcT {kx vx tg iter : Expr} {ifs : List Expr} {scope : Scope} {own : List (PySem.Str × Nat)} {pos : Pos} {wi : TI} {g : TG} {tt : TT} {tk tv : TE} (hu : X.A.units + 1 < cLine) (hc : X.calm = true) (hN : X.N.Nodup) (hi : PI X tg iter wi) (ok : BlkOk X.N X.env.scope scope own)
    (hg : ∀ (s' : Shared) (G : Hp) (C : Addr) (cl : List (PySem.Str × Addr)) (fp : List Addr), PG (X.blk s' G scope (compEnvC scope cl C X.env) fp) tg g)
    (ht : ∀ (s' : Shared) (G : Hp) (C : Addr) (cl : List (PySem.Str × Addr)) (fp : List Addr), PTs (X.blk s' G scope (compEnvC scope cl C X.env) fp) ifs tt)
    (hk : ∀ (s' : Shared) (G : Hp) (C : Addr) (cl : List (PySem.Str × Addr)) (fp : List Addr), PE (X.blk s' G scope (compEnvC scope cl C X.env) fp) kx tk)
    (he : ∀ (s' : Shared) (G : Hp) (C : Addr) (cl : List (PySem.Str × Addr)) (fp : List Addr), PE (X.blk s' G scope (compEnvC scope cl C X.env) fp) vx tv)
    (hs : ∀ x, foldedSetIterable iter X.env x = pure x := by intro _; rfl) :
    PE X (.DictComp kx vx [⟨tg, iter, ifs, 0⟩] scope pos) (tDcT wi g tt tk tv (own.map (·.2))) := by
  refine ⟨fun pins s σ H Q I h => ?_⟩
  have caught : ∀ y ∈ scope.names, y.2 = .free → ∃ c, X.env.cells.lookup y.1 = some c := fun y hy e => I.ok.has _ (ok.free y hy e)
  rw [arm_eval_DictComp]
  refine wpAny_comprehension_free rfl hs (closure_ok caught) ok.kind (fun y hy e => by rw [ok.uniq y hy, e]) (thn (hi.run pins s σ H _ I h) fun xv sa ha => thn ha fun itv sb hb => ?_)
  obtain ⟨it, fp, tn, J, Hb, e, Ib, T, stb, fb, q⟩ := hb
  subst e
  refine wpAny_newObj_type (newEnv_comp ?_)
  generalize eD : sb.heap.objs.size = D
  obtain ⟨W, ⟨m0, w0⟩, turn⟩ := q D (Ib.hok.fresh (Nat.le_of_eq eD))
  generalize ec : ({ sb with heap := sb.heap.push { cls := .type "dict", data := .dict #[] } } : Shared) = sc
  have Ic : Inv X pins σ (upd Hb D (.dT [])) sc := by
    subst ec eD
    exact Ib.laid (t' := sb.toks) (fun b u e => Heap.get?_push_of_some _ e) (Nat.le_refl _) (dt_empty sb.heap Ib.big)
  have hc' : sc.heap = sb.heap.push { cls := .type "dict", data := .dict #[] } := by rw [← ec]
  have old : ∀ b ∈ fp, b < sb.heap.objs.size := fun b hb => by
    obtain ⟨u, e, _⟩ := T.obj _ _ stb b hb
    exact Heap.lt_size e
  generalize eG : upd Hb D (.dT []) = G at Ic w0
  have fc : ∀ b ∈ fp, FpOk X pins G b ∧ b < sc.heap.objs.size := fun b hb => by
    have l := old b hb
    have f := fb b hb
    subst eG eD
    refine ⟨⟨?_, f.2⟩, by rw [hc', Heap.size_push]; exact Nat.lt_succ_of_lt l⟩
    rw [upd_ne (Nat.ne_of_lt l)]
    exact f.1
  have stc : tn 0 sc.heap := T.keep _ _ _ stb fun b _ u e => by rw [hc']; exact Heap.get?_push_of_some _ e
  have Id := block_start Ic ok hN fc
  generalize eC : sc.heap.objs.size = C at Id
  generalize ecl : cellsFrom (C + 1) scope.names (cloFrom X.env.cells scope.names []) = cl at Id
  have pg := hg sc G C cl fp
  have pt := ht sc G C cl fp
  have pk := hk sc G C cl fp
  have pe := he sc G C cl fp
  show codeAny _ _ (.compStart (.DictComp kx vx [⟨tg, iter, ifs, 0⟩] scope pos) 0 (.ref it) (.ref D) (compEnvC scope cl C X.env))
    (compPost (model X.prog X.w) X.A X.xe none (EP X pins σ Q) (.ref D) C) { sc with heap := pushCells (sc.heap.push { cls := .type "dict", data := .dict #[] }) scope.names }
  have clear : ∀ b ∈ fp, G b = none := fun b hb => (fc b hb).1.1
  generalize ece : compEnvC scope cl C X.env = ce at Id pg pt pk pe ⊢
  have eL : ce.locals = C := by subst ece; rfl
  have hu2 : (X.blk sc G scope ce fp).A.units + 1 < cLine := hu
  generalize ed : ({ sc with heap := pushCells (sc.heap.push { cls := .type "dict", data := .dict #[] }) scope.names } : Shared) = sd at Id ⊢
  have std : tn 0 sd.heap := T.keep _ _ _ stc fun b _ u e => by rw [← ed]; exact pushCells_keeps _ _ _ _ (Heap.get?_push_of_some _ e)
  let Loop : Nat → Shared → Prop := fun m t => ∃ i F, Inv (X.blk sc G scope ce fp) [] (wipe σ (own.map (·.2))) F t ∧ tn i t.heap ∧ (∀ b ∈ fp, F b = none) ∧ W i m F
  have loop : codeAny (model X.prog X.w) X.A (.compLoop (.DictComp kx vx [⟨tg, iter, ifs, 0⟩] scope pos) 0 (.ref it) (.ref D) ce) (compPost (model X.prog X.w) X.A X.xe none (EP X pins σ Q) (.ref D) C) sd := by
    refine compLoop_anyD Loop ?_ m0 ⟨0, G, Id, std, clear, w0⟩
    rintro n t ⟨i, F, It, stt, nt, w⟩
    rcases turn i n F w with ⟨stop, qq⟩ | ⟨go, Nx, hNx, step⟩
    · refine thnF (T.done (X.blk sc G scope ce fp) rfl rfl rfl (hc) i [] t _ F (fun _ _ => False) It (at_rest (Y := X.blk sc G scope ce fp) rfl rfl It nt) stt stop) fun r u ⟨er, Iu⟩ => ?_
      subst er
      have Iv : Inv X pins σ F u := Ic.call' (ch := fp) Iu.os (Iu.base) (Iu.hok) Iu.bare fun b hb => let f := (fc b hb).1; ⟨f.2.2.2.1, f.2.1, f.2.2.2.2.1, f.2.2.2.2.2⟩
      have nC : F C = none := by
        have z : F ce.locals = none := Iu.free
        rwa [eL] at z
      have Il := Iu.loc
      obtain ⟨m, hm, _⟩ := Il
      have hm : u.heap.Ns ce.locals m := hm
      rw [eL] at hm
      obtain ⟨f0, f1, f2, f3, f4, f5⟩ := Ic.fpOk (Nat.le_of_eq eC) nC
      exact ⟨m, hm, fun h' same => ⟨.ref D, F, Iv.turned (t' := u.toks) (fun b o hb e => (same.2 b hb).trans e) f0 f1 f3 f4 f5, rfl, qq⟩⟩
    · refine thnF (T.item (X.blk sc G scope ce fp) rfl rfl rfl (hc) i [] t _ F (fun _ _ => False) It (at_rest (Y := X.blk sc G scope ce fp) rfl rfl It nt) stt go) fun r u ⟨uv, er, hu⟩ => ?_
      subst er
      refine thnF hu fun _ t1 ⟨x, F1, I1, r1, y1, st1, n1⟩ => ?_
      have I1' := I1.pinned (at_rest (Y := X.blk sc G scope ce fp) rfl rfl I1 n1) (T.obj _ _ st1)
      refine thnF (pg.run _ t1 _ F1 x uv _ I1' r1 (step x F1 y1)) fun _ t2 ⟨σ2, F2, I2, ew, q2⟩ => ?_
      refine thnF (pt.run _ t2 σ2 F2 _ I2 q2) fun b t3 ⟨F3, I3, q3⟩ => ?_
      have turned : ∀ {t' : Shared} {F' : Hp}, Inv (X.blk sc G scope ce fp) ([] ++ pinsAt fp t1.heap) σ2 F' t' → Nx F' → ∃ m, m < n ∧ Loop m t' := fun {t' F'} I' nx => by
        obtain ⟨m', hm, w'⟩ := hNx F' nx
        have keep : ∀ b ∈ fp, ∀ o, t1.heap.get? b = some o → t'.heap.get? b = some o ∧ F' b = none := fun b hb o e =>
          have z := I'.pin (b, o) (List.mem_append_right _ (List.mem_append_right _ (mem_pinsAt hb e)))
          ⟨z.1, z.2.1⟩
        refine ⟨m', hm, i + 1, F', (I'.unpinned (pins := [])).weak (by rw [← ew, wipe_length]) (fun j v e => ?_), T.keep _ _ _ st1 fun b hb o e => (keep b hb o e).1, fun b hb => ?_, w'⟩
        · rw [← ew] at e
          exact (wipe_some e).1
        · obtain ⟨o, e, _⟩ := T.obj _ _ st1 b hb
          exact (keep b hb o e).2
      cases b
      · exact turned I3 q3
      · refine thnF (pk.run _ t3 σ2 F3 _ I3 q3) fun z t4 ⟨yv, F4, I4, r4, q4⟩ => ?_
        refine thnF (pe.run _ t4 σ2 F4 _ I4 q4) fun z2 t5 ⟨zv, F5, I5, r5, kvs, k, bb, ey, hb5, hD5, hz5, nx⟩ => ?_
        subst ey
        cases (show z = Value.ref bb from r4)
        exact dictSetT (X := X.blk sc G scope ce fp) hu2 I5 hD5 hz5 hb5 r5 fun t6 I6 => turned I6 nx
  exact codeAny_compStart_dict loop (T.self X.A 0 _ _ _ std loop)
end
/-! ### the same for data -/
/-- the entry is put; T: the keys are tuples -/
def putM (T : Bool) (n : Nat) (y z : D) (M : Mem) : Option Mem := match T with
  | false => match keyO y, M[n]? with
    | some k, some (.dct kvs) => if kvs.length < 16777216 then some (M.set n (.dct (putD kvs k z))) else none
    | _, _ => none
  | true => match keyT y, M[n]? with
    | some k, some (.dtt kvs) => if kvs.length < 16777216 then some (M.set n (.dtt (putD kvs k z))) else none
    | _, _ => none
def dcN (T : Bool) (iv : IV) (g : SG) (t : SB) (fk fv : SF) (n : Nat) : Nat → Nat → SD → Mem → Out Unit
  | 0, _, _, _ => .bad
  | k + 1, i, σ, M => match ivAt iv i M with
    | none => .bad
    | some none => .ok () M
    | some (some x) => (g x σ M).bind fun σ1 M1 => (t σ1 M1).bind fun b M2 => match b with
      | true => (fk σ1 M2).bind fun y M3 => (fv σ1 M3).bind fun z M4 => match putM T n y z M4 with
        | some M5 => dcN T iv g t fk fv n k (i + 1) σ M5
        | none => .bad
      | false => dcN T iv g t fk fv n k (i + 1) σ M2
def noneD (T : Bool) : MO := match T with
  | false => .dct []
  | true => .dtt []
def fDc (T : Bool) (vs : List Nat) (fi : SI) (g : SG) (t : SB) (fk fv : SF) : SF := fun σ M => (fi σ M).bind fun iv M1 => (dcN T iv g t fk fv M1.length (ivLen iv M1 + 1) 0 (wipeD σ vs) (M1 ++ [noneD T])).nox.bind fun _ M2 => .ok (.ref M1.length) M2
section
variable {X : Cx} {E : XK}
theorem tDcT_of {vs vsg : List Nat} {fi : SI} {g : SG} {t : SB} {fk fv : SF} {σ : L2.St} {H : Hp} {Q : VK} (hv : ∀ i ∈ vsg, i ∈ vs) (h : tE X.K X.mg E (fDc true vs fi g t fk fv) σ H Q) :
    tDcT (tI X.K X.mg E fi) (tG X.K X.mg EF vsg g) (tT X.K X.mg EF t) (tE X.K X.mg EF fk) (tE X.K X.mg EF fv) vs σ H Q := by
  obtain ⟨ρ, M, σd, R, en, hp⟩ := h
  refine ⟨ρ, M, σd, R, en, hp.bind.imp fun iv M1 ρ1 H1 x1 R1 hp1 J hJ => ?_⟩
  have hp2 := nox_bind hp1
  intro p hD
  have en1 := (en.ext R x1).wipe vs
  have xn : Ext ρ1 H1 (ρ1.push p) (upd H1 p (.dT [])) := .new hD
  have Rn : Rep X.K (ρ1.push p) (M1 ++ [.dtt []]) (upd H1 p (.dT [])) := R1.new hD ⟨[], upd_same, rfl, .nil⟩
  have ixp : (ρ1.push p).num[M1.length]? = some p := by simp [Nu.push, ← R1.len]
  refine ⟨fun i m H => ∃ ρ2 M2, Rep X.K ρ2 M2 H ∧ EnvD X.K ρ2 H (wipeD σd vs) (L2.wipe σ vs) ∧ Ext (ρ1.push p) (upd H1 p (.dT [])) ρ2 H ∧
      Post X.K X.mg EF ρ2 H (dcN true iv g t fk fv M1.length m i (wipeD σd vs) M2) (fun _ M' ρ' H' => Post X.K X.mg E ρ' H' (.ok (.ref M1.length) M') fun d _ ρ' H' => ∀ v, Den X.K ρ' H' d v → Q v H'),
    ⟨ivLen iv M1 + 1, ρ1.push p, M1 ++ [.dtt []], Rn, en1.ext R1 xn, .refl, Post.from hp2 xn⟩, ?_⟩
  rintro i m H2 ⟨ρ2, M2, R2, en2, x2, hp3⟩
  have xR := (xn.trans x2).toR
  cases m with
  | zero => exact (show False from hp3).elim
  | succ m =>
    unfold dcN at hp3
    split at hp3
    · exact (show False from hp3).elim
    · rename_i eiv
      exact .inl ⟨ivAt_none hJ xR R2 eiv, (Post.here hp3 R2).here R2 (.ref p) (.ref (x2.get ixp))⟩
    · rename_i x eiv
      obtain ⟨hgo, hyl⟩ := ivAt_some hJ xR R2 eiv
      refine .inr ⟨hgo, fun H => ∃ ρ2 M2, Rep X.K ρ2 M2 H ∧ EnvD X.K ρ2 H (wipeD σd vs) (L2.wipe σ vs) ∧ Ext (ρ1.push p) (upd H1 p (.dT [])) ρ2 H ∧
          Post X.K X.mg EF ρ2 H (dcN true iv g t fk fv M1.length m (i + 1) (wipeD σd vs) M2) (fun _ M' ρ' H' => Post X.K X.mg E ρ' H' (.ok (.ref M1.length) M') fun d _ ρ' H' => ∀ v, Den X.K ρ' H' d v → Q v H'),
        fun H' w => ⟨m, Nat.lt_succ_self m, w⟩, fun w H3 y => ?_⟩
      obtain ⟨x3, R3, rx⟩ := hyl w H3 y
      have en3 := en2.ext R2 x3
      refine ⟨ρ2, M2, wipeD σd vs, x, R3, en3, rx, (Post.from hp3 x3).bind.imp fun σ4 M4 ρ4 H4 x4 R4 hp4 σ' en' off => ?_⟩
      refine ⟨(wipe_off (off.sub hv)).trans wipe_wipe, ?_⟩
      refine ⟨ρ4, M4, σ4, R4, en', hp4.bind.imp fun b M5 ρ5 H5 x5 R5 hp5 => ?_⟩
      have en5 := (en3.ext R3 x4).ext R4 x5
      have x15 := ((x2.trans x3).trans x4).trans x5
      cases b with
      | false =>
        dsimp only
        rw [if_neg Bool.false_ne_true]
        exact ⟨ρ5, M5, R5, en5, x15, hp5⟩
      | true =>
        dsimp only
        rw [if_pos rfl]
        refine ⟨ρ5, M5, σ4, R5, en'.ext R4 x5, hp5.bind.imp fun yd M6 ρ6 H6 x6 R6 hp6 yv ry => ?_⟩
        refine ⟨ρ6, M6, σ4, R6, (en'.ext R4 x5).ext R5 x6, hp6.bind.imp fun zd M7 ρ7 H7 x7 R7 hp7 zv rz => ?_⟩
        have x17 := (x15.trans x6).trans x7
        split at hp7
        · rename_i M8 e8
          unfold putM at e8
          dsimp only at e8
          split at e8
          · rename_i k kvs hk hacc
            split at e8
            · rename_i hl
              cases e8
              have ix7 := x17.get ixp
              obtain ⟨es, h1, h2, da⟩ := R7.obj _ _ _ ix7 hacc
              have ents : Ents X.K ρ7 H7 kvs es := ⟨h2, da⟩
              obtain ⟨bb, rfl, hb⟩ := keyT_ok (ry.ext R6 x7) hk
              have xw : Ext ρ7 H7 ρ7 (upd H7 p (.dT (putK es k zv))) := .write (List.mem_of_getElem? ix7) (nfz h1)
              have t2 := (ents.ext R7 xw).put (k := k) (rz.ext R7 xw)
              exact ⟨es, k, bb, rfl, hb, h1, by rw [← ents.length]; exact hl, ρ7, _, R7.write (o := .dtt (putD kvs k zd)) ix7 (nfz h1) ⟨_, upd_same, t2.1, t2.2⟩, ((en5.ext R5 x6).ext R6 x7).ext R7 xw, x17.trans xw, Post.from hp7 xw⟩
            · cases e8
          · cases e8
        · exact hp7.elim
theorem tDcK_of {vs vsg : List Nat} {fi : SI} {g : SG} {t : SB} {fk fv : SF} {σ : L2.St} {H : Hp} {Q : VK} (hv : ∀ i ∈ vsg, i ∈ vs) (h : tE X.K X.mg E (fDc false vs fi g t fk fv) σ H Q) :
    tDc (tI X.K X.mg E fi) (tG X.K X.mg EF vsg g) (tT X.K X.mg EF t) (tE X.K X.mg EF fk) (tE X.K X.mg EF fv) vs σ H Q := by
  obtain ⟨ρ, M, σd, R, en, hp⟩ := h
  refine ⟨ρ, M, σd, R, en, hp.bind.imp fun iv M1 ρ1 H1 x1 R1 hp1 J hJ => ?_⟩
  have hp2 := nox_bind hp1
  intro p hD
  have en1 := (en.ext R x1).wipe vs
  have xn : Ext ρ1 H1 (ρ1.push p) (upd H1 p (.dK [])) := .new hD
  have Rn : Rep X.K (ρ1.push p) (M1 ++ [.dct []]) (upd H1 p (.dK [])) := R1.new hD ⟨[], upd_same, rfl, .nil⟩
  have ixp : (ρ1.push p).num[M1.length]? = some p := by simp [Nu.push, ← R1.len]
  refine ⟨fun i m H => ∃ ρ2 M2, Rep X.K ρ2 M2 H ∧ EnvD X.K ρ2 H (wipeD σd vs) (L2.wipe σ vs) ∧ Ext (ρ1.push p) (upd H1 p (.dK [])) ρ2 H ∧
      Post X.K X.mg EF ρ2 H (dcN false iv g t fk fv M1.length m i (wipeD σd vs) M2) (fun _ M' ρ' H' => Post X.K X.mg E ρ' H' (.ok (.ref M1.length) M') fun d _ ρ' H' => ∀ v, Den X.K ρ' H' d v → Q v H'),
    ⟨ivLen iv M1 + 1, ρ1.push p, M1 ++ [.dct []], Rn, en1.ext R1 xn, .refl, Post.from hp2 xn⟩, ?_⟩
  rintro i m H2 ⟨ρ2, M2, R2, en2, x2, hp3⟩
  have xR := (xn.trans x2).toR
  cases m with
  | zero => exact (show False from hp3).elim
  | succ m =>
    unfold dcN at hp3
    split at hp3
    · exact (show False from hp3).elim
    · rename_i eiv
      exact .inl ⟨ivAt_none hJ xR R2 eiv, (Post.here hp3 R2).here R2 (.ref p) (.ref (x2.get ixp))⟩
    · rename_i x eiv
      obtain ⟨hgo, hyl⟩ := ivAt_some hJ xR R2 eiv
      refine .inr ⟨hgo, fun H => ∃ ρ2 M2, Rep X.K ρ2 M2 H ∧ EnvD X.K ρ2 H (wipeD σd vs) (L2.wipe σ vs) ∧ Ext (ρ1.push p) (upd H1 p (.dK [])) ρ2 H ∧
          Post X.K X.mg EF ρ2 H (dcN false iv g t fk fv M1.length m (i + 1) (wipeD σd vs) M2) (fun _ M' ρ' H' => Post X.K X.mg E ρ' H' (.ok (.ref M1.length) M') fun d _ ρ' H' => ∀ v, Den X.K ρ' H' d v → Q v H'),
        fun H' w => ⟨m, Nat.lt_succ_self m, w⟩, fun w H3 y => ?_⟩
      obtain ⟨x3, R3, rx⟩ := hyl w H3 y
      have en3 := en2.ext R2 x3
      refine ⟨ρ2, M2, wipeD σd vs, x, R3, en3, rx, (Post.from hp3 x3).bind.imp fun σ4 M4 ρ4 H4 x4 R4 hp4 σ' en' off => ?_⟩
      refine ⟨(wipe_off (off.sub hv)).trans wipe_wipe, ?_⟩
      refine ⟨ρ4, M4, σ4, R4, en', hp4.bind.imp fun b M5 ρ5 H5 x5 R5 hp5 => ?_⟩
      have en5 := (en3.ext R3 x4).ext R4 x5
      have x15 := ((x2.trans x3).trans x4).trans x5
      cases b with
      | false =>
        dsimp only
        rw [if_neg Bool.false_ne_true]
        exact ⟨ρ5, M5, R5, en5, x15, hp5⟩
      | true =>
        dsimp only
        rw [if_pos rfl]
        refine ⟨ρ5, M5, σ4, R5, en'.ext R4 x5, hp5.bind.imp fun yd M6 ρ6 H6 x6 R6 hp6 yv ry => ?_⟩
        refine ⟨ρ6, M6, σ4, R6, (en'.ext R4 x5).ext R5 x6, hp6.bind.imp fun zd M7 ρ7 H7 x7 R7 hp7 zv rz => ?_⟩
        have x17 := (x15.trans x6).trans x7
        split at hp7
        · rename_i M8 e8
          unfold putM at e8
          dsimp only at e8
          split at e8
          · rename_i k kvs hk hacc
            split at e8
            · rename_i hl
              cases e8
              have ix7 := x17.get ixp
              obtain ⟨es, h1, h2, da⟩ := R7.obj _ _ _ ix7 hacc
              have ents : Ents X.K ρ7 H7 kvs es := ⟨h2, da⟩
              have ey := keyO_ok (ry.ext R6 x7) hk
              have xw : Ext ρ7 H7 ρ7 (upd H7 p (.dK (putK es k zv))) := .write (List.mem_of_getElem? ix7) (nfz h1)
              have t2 := (ents.ext R7 xw).put (k := k) (rz.ext R7 xw)
              exact ⟨es, k, ey, h1, by rw [← ents.length]; exact hl, ρ7, _, R7.write (o := .dct (putD kvs k zd)) ix7 (nfz h1) ⟨_, upd_same, t2.1, t2.2⟩, ((en5.ext R5 x6).ext R6 x7).ext R7 xw, x17.trans xw, Post.from hp7 xw⟩
            · cases e8
          · cases e8
        · exact hp7.elim
variable {N : List Str} {sc : Scope} {ks : List (Option NameKind)} {own : List Nat} {k : Nat}
def BlkD (X : Cx) (N : List Str) (sc scope : Scope) (ks' : List (Option NameKind)) (ow : List (Str × Nat)) (k : Nat) (vsg : List Nat) (tg kx vx : Expr) (ifs : List Expr) (g : SG) (t : SB) (fk fv : SF) : Prop :=
  ∀ (s : Shared) (H : Hp) (Cc : Addr) (cl : List (Str × Addr)) (fp : List Addr), Ctx (X.blk s H scope (compEnvC scope cl Cc X.env) fp) EF N (relS scope sc) ks' (ow.map (·.2)) k →
    JG (X.blk s H scope (compEnvC scope cl Cc X.env) fp) EF vsg tg g ∧ PTs (X.blk s H scope (compEnvC scope cl Cc X.env) fp) ifs (tT X.K X.mg EF t) ∧ JE (X.blk s H scope (compEnvC scope cl Cc X.env) fp) EF kx fk ∧ JE (X.blk s H scope (compEnvC scope cl Cc X.env) fp) EF vx fv
theorem cdc (C : Ctx X E N sc ks own k) (T : Bool) (ow : List (Str × Nat)) (ks' : List (Option NameKind)) {vsg : List Nat} {kx vx tg iter : Expr} {ifs : List Expr} {scope : Scope} {pos : Pos} {fi : SI} {g : SG} {t : SB} {fk fv : SF} (hi : JI X E tg iter fi) (hB : BlkD X N sc scope ks' ow k vsg tg kx vx ifs g t fk fv)
    (ok : blkAll N sc scope ks' ow = true := by decide +kernel) (hv : ∀ i ∈ vsg, i ∈ ow.map (·.2) := by decide) (hs : ∀ x, foldedSetIterable iter X.env x = pure x := by intro _; rfl) :
    JE X E (.DictComp kx vx [⟨tg, iter, ifs, 0⟩] scope pos) (fDc T (ow.map (·.2)) fi g t fk fv) := by
  obtain ⟨o1, o2, o3, o4⟩ := blkAll_ok ok
  have hb := fun s H Cc cl fp => hB s H Cc cl fp (C.blk o4 o2 o3 s H Cc cl fp)
  cases T with
  | false => exact PE.weak (pe_dc C.calm (by rw [C.hN]; exact C.nd) hi (by rw [C.hN, C.hsc]; exact o1) (fun s H Cc cl fp => (hb s H Cc cl fp).1) (fun s H Cc cl fp => (hb s H Cc cl fp).2.1) (fun s H Cc cl fp => (hb s H Cc cl fp).2.2.1) (fun s H Cc cl fp => (hb s H Cc cl fp).2.2.2) hs) fun σ H Q h => tDcK_of hv h
  | true => exact PE.weak (pe_dcT C.hu1 C.calm (by rw [C.hN]; exact C.nd) hi (by rw [C.hN, C.hsc]; exact o1) (fun s H Cc cl fp => (hb s H Cc cl fp).1) (fun s H Cc cl fp => (hb s H Cc cl fp).2.1) (fun s H Cc cl fp => (hb s H Cc cl fp).2.2.1) (fun s H Cc cl fp => (hb s H Cc cl fp).2.2.2) hs) fun σ H Q h => tDcT_of hv h
end
end KP

/-! more of dicts -/
namespace KP
open PySem PySem.Spec PyProof.Rows L2
/-- the entries of a dict that may be locked -/
def dctR (d : D) (M : Mem) : Option (Nat × List (Key × D)) := match d with
  | .ref n => match M[n]? with
    | some (.dct kvs) => some (n, kvs)
    | some (.dctF kvs) => some (n, kvs)
    | _ => none
  | _ => none
theorem dctR_some {K : PySem.W.Frag} {ρ : Nu} {M : Mem} {H : Hp} {d : D} {v : V} {n : Nat} {kvs : List (Key × D)} (R : Rep K ρ M H) (r : Den K ρ H d v) (h : dctR d M = some (n, kvs)) : ∃ a es, v = .ref a ∧ ρ.num[n]? = some a ∧ Rd H a (.dK es) ∧ Ents K ρ H kvs es := by
  unfold dctR at h
  split at h
  · split at h
    · rename_i kvs' e
      cases h
      cases r with
      | ref hr =>
        obtain ⟨es, h1, h2, h3⟩ := R.obj _ _ _ hr e
        exact ⟨_, es, rfl, hr, .inl h1, ⟨h2, h3⟩⟩
    · rename_i kvs' e
      cases h
      cases r with
      | ref hr =>
        obtain ⟨es, od, h1, h2, h3⟩ := R.obj _ _ _ hr e
        exact ⟨_, es, rfl, hr, .inr ⟨od, h1⟩, ⟨h2, h3⟩⟩
    · cases h
  · cases h
theorem get_k {H : Hp} {a : Addr} {es : List (Key × V)} {k : Key} (e : Rd H a (.dK es)) : DGet H a (kV k) (valV es k) := .inl ⟨es, k, e, rfl, rfl⟩
section
variable {X : Cx} {E : XK}
def ixR (x i : D) (M : Mem) : Option D := match dctR x M, keyO i with
  | some (_, kvs), some k => getK kvs k
  | _, _ => none
theorem ox_ixR (hu : X.A.units + 1 < cLine) : IxR X (rD X.K X.mg E (pure2 ixR)) := by
  intro value slice pins s σ H x y v u Q I rx ry h hsub
  obtain ⟨ρ, M, dx, dy, R, r1, r2, hp⟩ := h
  obtain ⟨d, e, hp2⟩ := pure2_post hp
  unfold ixR at e
  split at e
  · rename_i n kvs k hd hk
    obtain ⟨a, es, rfl, hr, h1, t⟩ := dctR_some R r1 hd
    obtain ⟨w, hw, rw'⟩ := (t.get.1 _ e)
    have ey := keyO_ok r2 hk
    subst ey
    cases rx
    have g : DGet H a (kV k) (some w) := by rw [← hw]; exact get_k h1
    exact tail_any (dict_typeIs I g) PySem.F.slot_dict_getitem.lookup (d_getItem hu I g ry fun w' s3 I3 rw3 => ⟨w, H, I3, rw3, hp2.here R _ rw'⟩) hsub
  · cases e
theorem je_ixR {a b : Expr} {fa fb : SF} {pos : Pos} (hu : X.A.units + 1 < cLine) (ha : JE X E a fa) (hb : JE X E b fb) (hs : PlainIx b := by intro _ _; rfl) : JE X E (.Subscript a b pos) (fBin (pure2 ixR) fa fb) :=
  PE.weak (pe_ix (ox_ixR hu) ha hb hs) fun σ H Q h => tOp_of h
def inR (x c : D) (M : Mem) : Option Bool := match dctR c M, keyO x with
  | some (_, kvs), some k => some (getK kvs k).isSome
  | _, _ => none
def dInR := pure2 fun x y M => bO (inR x y M)
def dNotInR := pure2 fun x y M => nbO (inR x y M)
theorem inR_some {x c : D} {M : Mem} {b : Bool} (h : inR x c M = some b) : ∃ n kvs k, dctR c M = some (n, kvs) ∧ keyO x = some k ∧ b = (getK kvs k).isSome := by
  unfold inR at h
  split at h
  · rename_i n kvs k hd hk
    cases h; exact ⟨n, kvs, k, hd, hk, rfl⟩
  · cases h
theorem od_inR (hu : X.A.units + 65 < cLine) : OpR X (compareOp .In) (rD X.K X.mg E dInR) := by
  intro pins s σ H x y v u Q I rx ry h
  obtain ⟨ρ, M, dx, dy, R, r1, r2, hp⟩ := h
  obtain ⟨d, e0, hp2⟩ := pure2_post hp
  obtain ⟨b, e, hd⟩ := bO_some e0
  obtain ⟨n, kvs, k, h1, h2, rfl⟩ := inR_some e
  obtain ⟨a, es, rfl, hr, h3, t⟩ := dctR_some R r2 h1
  have ey := keyO_ok r1 h2
  subst hd ey
  cases ry
  refine d_in (by omega) I (get_k h3) rx fun s3 I3 => ⟨.bl _, H, I3, rfl, ?_⟩
  rw [t.isSome]
  exact hp2.here R _ (.bl _)
theorem od_notInR (hu : X.A.units + 65 < cLine) : OpR X (compareOp .NotIn) (rD X.K X.mg E dNotInR) := by
  intro pins s σ H x y v u Q I rx ry h
  obtain ⟨ρ, M, dx, dy, R, r1, r2, hp⟩ := h
  obtain ⟨d, e0, hp2⟩ := pure2_post hp
  obtain ⟨b, e, hd⟩ := nbO_some e0
  obtain ⟨n, kvs, k, h1, h2, rfl⟩ := inR_some e
  obtain ⟨a, es, rfl, hr, h3, t⟩ := dctR_some R r2 h1
  have ey := keyO_ok r1 h2
  subst hd ey
  cases ry
  refine d_notIn (by omega) I (get_k h3) rx fun s3 I3 => ⟨.bl _, H, I3, rfl, ?_⟩
  rw [t.isSome]
  exact hp2.here R _ (.bl _)
/-- list(d): the keys -/
def cListKeys : List D → Mem → Out D := fun ds M => match ds with
  | [x] => match dctR x M with
    | some (_, kvs) => .ok (.lst (kvs.map fun kv => kD kv.1)) M
    | none => .bad
  | _ => .bad
theorem dens_kDs {K : PySem.W.Frag} {ρ : Nu} {H : Hp} : ∀ {kvs : List (Key × D)} {es : List (Key × V)}, Ents K ρ H kvs es → Dens K ρ H (kvs.map fun kv => kD kv.1) (es.map fun kv => kV kv.1) := by
  intro kvs es h
  have e1 : (kvs.map fun kv => kD kv.1) = (kvs.map (·.1)).map kD := by rw [List.map_map]; rfl
  have e2 : (es.map fun kv => kV kv.1) = (es.map (·.1)).map kV := by rw [List.map_map]; rfl
  rw [e1, e2, h.1]
  exact dens_kD _
theorem oc_listKeys (hc : X.calm = true) : CallR X (.type "list") (rC X.K X.mg E cListKeys) := by
  intro pins s σ H xs us Q I r h
  obtain ⟨ρ, M, ds, R, rd, hp⟩ := h
  unfold cListKeys at hp
  split at hp
  · split at hp
    · rename_i n kvs hd
      obtain ⟨v, rfl, r1⟩ := dens1 rd
      obtain ⟨a, es, rfl, hr, h3, t⟩ := dctR_some R r1 hd
      exact call_listD hc pins s σ H _ us Q I r ⟨a, es, rfl, h3, fun p np => hp.lstTmp R (dens_kDs t) p np⟩
    · exact hp.elim
  · exact hp.elim
end
end KP

/-! min(a tuple of ints) -/
namespace KP
open PySem PySem.Spec PyProof.Rows L2
section
variable {X : Cx} {E : XK}
theorem cr_minT (hc : X.calm = true) : CallR X (.builtin "min") (fun vs H Q => ∃ (a : Addr) (ns : List Int), vs = [V.ref a] ∧ SqT X.K H a (ns.map V.int) ∧ 0 < ns.length ∧ ∀ m, m ∈ ns → (∀ y, y ∈ ns → m ≤ y) → Q (.int m) H) := by
  intro pins s σ H vs us Q I r h
  obtain ⟨a, ns, rfl, hs, hne, q⟩ := h
  obtain ⟨its, rv, hl, _⟩ := I.tuple hs
  rw [Vals.ref1 r]
  have hi := rv.ints
  obtain ⟨xs, e⟩ := hi.allInts.items
  have hn : numsOf (intItems xs).toList = ns := by rw [← e]; exact hi.numsOf
  rw [nums_intItems] at hn
  subst hn
  rw [e] at hl
  have hsz : 0 < xs.size := by simpa using hne
  have hl' : s.heap.IsTuple a (intItems xs) := by obtain ⟨o, h1, h2, n, h3⟩ := hl; exact ⟨o, h1, h2, n, h3⟩
  have hlt : a < s.heap.objs.size := by obtain ⟨_, e, _⟩ := hl'; exact Heap.lt_size e
  have keep : ∀ b o, s.heap.get? b = some o → (s.heap.push { cls := .type "tuple_iterator", data := .fields #[.ref a, .int 0 0] }).get? b = some o := fun b o e => Heap.get?_push_of_some _ e
  refine call_min_walk (wpAny_pyIter_tuple hl' ?_)
  refine ⟨_, _, _, _, _, _, _, rfl, Walks.tuple (A := X.A.in1) (I.ok.hd hc) _ a (Nat.ne_of_lt hlt) (intItems xs), ⟨⟨_, Heap.get?_push_size _ rfl, rfl, rfl⟩, hl'.push _⟩, fun b hb => ?_, by simpa [intItems] using hsz, CmpOf.ints_lt (numAt xs) (fun _ _ => intItems_at), fun v h' tk hP hk => ?_⟩
  · show b < (s.heap.push _).objs.size
    rw [Heap.size_push]
    rcases List.mem_cons.mp hb with rfl | hb
    · exact Nat.lt_succ_self _
    · rcases List.mem_cons.mp hb with rfl | hb
      · exact Nat.lt_succ_of_lt hlt
      · cases hb
  · have hv : (intItems xs)[argBest (fun i j => decide (numAt xs i < numAt xs j)) (xs.size - 1)]? = some v := by simpa [intItems] using hP
    obtain ⟨t, rfl⟩ := intItems_at hv
    obtain ⟨h1, h2⟩ := argBest_lt (numAt xs) (xs.size - 1)
    refine ⟨.int _, H, I.kept fun b o eo => hk b o (fun hm => ?_) (keep b o eo), ⟨_, rfl⟩, q _ ?_ fun y hy => ?_⟩
    · rw [List.mem_singleton.mp hm] at eo
      exact absurd (Heap.lt_size eo) (Nat.lt_irrefl _)
    · rw [numAt_eq]; exact PySem.getD_mem (by rw [List.length_map, Array.length_toList]; omega)
    · obtain ⟨j, hj, rfl⟩ := mem_getD hy
      rw [List.length_map, Array.length_toList] at hj
      rw [← numAt_eq]; exact h2 j (by omega)
def cMinT : List D → Mem → Option D := fun ds M => match ds with
  | [.tup xs] => match intsO xs with
    | some (i :: is) => some (.int (minI i is))
    | _ => none
  | _ => cMin ds M
theorem oc_minT (hc : X.calm = true) : CallR X (.builtin "min") (rC X.K X.mg E (pureC cMinT)) := by
  intro pins s σ H xs us Q I r h
  obtain ⟨ρ, M, ds, R, rd, hp⟩ := id h
  obtain ⟨d, e, hp⟩ := optO_post hp
  unfold cMinT at e
  split at e
  · obtain ⟨v, rfl, r1⟩ := dens1 rd
    split at e
    · rename_i i is hi
      cases e
      cases r1 with
      | tup hs t =>
        have hs := hs.sq
        rw [intsO_map t hi] at hs
        refine cr_minT hc pins s σ H _ us Q I r ⟨_, i :: is, rfl, hs, by simp, fun m hm hm2 => ?_⟩
        obtain ⟨k1, k2, k3⟩ := minI_le is i
        have : m = minI i is := by
          apply Int.le_antisymm
          · rcases k3 with k3 | k3
            · rw [k3]; exact hm2 i List.mem_cons_self
            · exact hm2 _ (List.mem_cons_of_mem _ k3)
          · rcases List.mem_cons.mp hm with rfl | hm
            · exact k1
            · exact k2 m hm
        rw [this]
        exact hp.here R _ (.int _)
    · cases e
  · refine oc_min (E := E) hc pins s σ H xs us Q I r ⟨ρ, M, ds, R, rd, ?_⟩
    unfold pureC; rw [e]; exact hp
end
end KP

/-! sorted(a tuple of texts) -/
namespace KP
open PySem PySem.Spec PyProof.Rows L2
def sP (z : List Nat) : PyData := .str ⟨z.toArray⟩
def sV (z : List Nat) : V := .str ⟨z.toArray⟩
section
variable {X : Cx}
theorem vals_strs : ∀ {zs : List (List Nat)} {its : List Value}, Vals (zs.map sV) its → PySem.W.EachIs (fun u z => RelV (sV z) u) its zs
  | [], _, h => by cases h; exact .nil
  | z :: zs, _, h => by cases h with
    | cons r t => exact .cons r (vals_strs t)
theorem strs_vals : ∀ {zs : List (List Nat)} {its : List Value}, PySem.W.EachIs (fun u z => RelV (sV z) u) its zs → Vals (zs.map sV) its
  | [], _, h => by cases h; exact .nil
  | z :: zs, _, h => by cases h with
    | cons r t => exact .cons r (strs_vals t)
theorem call_sortedTS (hu : X.A.units + 100 < cLine) : CallR X (.builtin "sorted") (fun xs H Q => ∃ (a : Addr) (zs : List (List Nat)), xs = [.ref a] ∧ SqT X.K H a (zs.map sV) ∧ zs.length < 64 ∧
    ∀ (p : Addr), H p = none → Q (.ref p) (upd H p (.lst ((isort (PySem.W.dataLe false sP) zs).map sV)))) := by
  intro pins s σ H xs us Q I r q
  obtain ⟨a, zs, ex, hd, h64, q⟩ := q
  subst ex
  obtain ⟨u, eu, rx⟩ := vals1 r
  subst eu
  cases rx
  obtain ⟨its, rv, ⟨o, ho, hc, n, hdat⟩, hz⟩ := I.tuple hd
  have hal : its.length = zs.length := by have := rv.length; rw [List.length_map] at this; exact this.symm
  have e0 := vals_strs rv
  refine Calls.call_function_entry PyProof.Rows.kind_sorted PyProof.Rows.plain_sorted PyProof.Rows.entry_sorted (PyProof.Rows.args_sorted1 _) ?_
  unfold Builtin.«sorted»
  refine wpAny_bind (m := checkCount "sorted" 1 1 _) (wpAny_pure ?_)
  refine wpAny_bind (wpAny_collect_seq a (.inr rfl) ho hc hdat (fun h' hk => ?_) (by rw [List.size_toArray, hal, sizeLine_eq]; omega))
  have e : its.toArray.toList = its := by simp
  rw [e]
  have I1 : Inv X pins σ H { s with heap := h' } := I.kept (t' := s.toks) hk
  refine wpAny_bind (wpAny_newList ?_ (by rw [hal, sizeLine_eq]; omega))
  have hoL : (h'.push (seqObj "list" its.toArray 0)).get? h'.objs.size = some (seqObj "list" its.toArray 0) := Heap.get?_push_size _ rfl
  show wpAny _ _ _ _ _ { s with heap := h'.push (seqObj "list" its.toArray 0) }
  have er : PySem.W.EachIs (fun v z => ∃ as, Reads (h'.push (seqObj "list" its.toArray 0)) v (sP z) as ∧ h'.objs.size ∉ as) its zs := each_imp e0 fun u z _ r => by
    obtain ⟨t, rfl⟩ := r
    exact ⟨[], .str _ _, by simp⟩
  have hal2 : PySem.W.AllAlike (zs.map sP) := fun d hd d' hd' => by
    obtain ⟨z, _, rfl⟩ := List.mem_map.mp hd
    obtain ⟨z', _, rfl⟩ := List.mem_map.mp hd'
    rfl
  have hso : PySem.W.Sortable (zs.map sP) := .inr fun d hd => by
    obtain ⟨z, _, rfl⟩ := List.mem_map.mp hd
    unfold sP
    exact ⟨nofun, nofun⟩
  refine wpAny_bind (wpAny_holding (PySem.W.list_sort_data (enc := sP) hoL e0 er hal2 hso (by rw [sizeLine_eq]; omega) (fun b _ => by
    have : (sP b).depth ≤ 1 := by unfold sP; simp [PyData.depth]
    have hin : X.A.in1.units = X.A.units + 1 := rfl
    show X.A.in1.units + 1 + (sP b).depth < cLine
    omega) fun out hlen hout => ?_))
  obtain ⟨e', he'⟩ := PyProof.Rows.sortedHeap_at (vs := its) (out := out.toArray) hoL
  rw [isort_eq (dataLe_total _)] at hout
  have hv := strs_vals hout
  have hl2 : ((isort (PySem.W.dataLe false sP) zs).map sV).length ≤ sizeLine := by
    rw [List.length_map, (isort_perm zs).length_eq, sizeLine_eq]; omega
  refine wpAny_pure ⟨_, rfl, .ref h'.objs.size, upd H h'.objs.size (.lst ((isort (PySem.W.dataLe false sP) zs).map sV)), I1.laid (t' := s.toks) (fun b u e => ?_) (Nat.le_refl _)
    (show ObjOk X.prog X.w _ _ _ (.lst ((isort (PySem.W.dataLe false sP) zs).map sV)) from ⟨hl2, out, e', hv, he'⟩), rfl, q _ (I1.hok.fresh (Nat.le_refl _))⟩
  have hb : b < h'.objs.size := Heap.lt_size e
  rw [PyProof.Rows.sortedHeap_old (Nat.ne_of_lt hb) (by rw [size_push']; exact Nat.lt_succ_of_lt hb)]
  exact Heap.get?_push_of_some _ e
end
def txsO : List D → Option (List (List Nat))
  | [] => some []
  | .str z :: ds => match txsO ds with
    | some zs => some (z :: zs)
    | none => none
  | _ => none
theorem txsO_map {K : PySem.W.Frag} {ρ : Nu} {H : Hp} : ∀ {ds : List D} {vs : List V} {zs : List (List Nat)}, Dens K ρ H ds vs → txsO ds = some zs → vs = zs.map sV
  | _, _, _, .nil, e => by cases e; rfl
  | _, _, zs, .cons r t, e => by
    cases r with
    | str z =>
      unfold txsO at e
      split at e
      · rename_i zs' h1
        cases e
        rw [txsO_map t h1]; rfl
      · cases e
    | _ => cases e
theorem dens_txs {K : PySem.W.Frag} {ρ : Nu} {H : Hp} : ∀ (zs : List (List Nat)), Dens K ρ H (zs.map .str) (zs.map sV)
  | [] => .nil
  | z :: zs => .cons (.str z) (dens_txs zs)
def cSortedS : List D → Mem → Out D := fun ds M => match ds with
  | [.tup xs] => match txsO xs with
    | some zs => if zs.length < 64 then .ok (.lst ((isort (PySem.W.dataLe false sP) zs).map .str)) M else .bad
    | none => .bad
  | ds => cSorted ds M
section
variable {X : Cx} {E : XK}
theorem oc_sortedS (hu : X.A.units + 100 < cLine) : CallR X (.builtin "sorted") (rC X.K X.mg E cSortedS) := by
  intro pins s σ H xs us Q I r h
  obtain ⟨ρ, M, ds, R, rd, hp⟩ := id h
  unfold cSortedS at hp
  split at hp
  · rename_i ys
    split at hp
    · rename_i zs hk
      split at hp
      · rename_i h64
        obtain ⟨v, rfl, r1⟩ := dens1 rd
        cases r1 with
        | tup hs t =>
          have hs := hs.sq
          rw [txsO_map t hk] at hs
          refine call_sortedTS hu pins s σ H _ us Q I r ⟨_, zs, rfl, hs, h64, fun p np => ?_⟩
          exact Post.lstTmp R (dens_txs _) hp p np
      · exact hp.elim
    · exact hp.elim
  · exact oc_sorted (E := E) hu pins s σ H xs us Q I r ⟨ρ, M, _, R, rd, hp⟩
end
end KP

/-! name = {.. for ..}, the keys tuples -/
namespace KP
open PySem PySem.Spec PyProof.Rows L2
section
variable {X : Cx}
theorem dcT_core {pins : List (Addr × Obj)} {s : Shared} {σ : L2.St} {H : Hp} {Q : VK} {kx vx tg iter : Expr} {ifs : List Expr} {scope : Scope} {own : List (PySem.Str × Nat)} {pos pos' : Pos} {wi : TI} {g : TG} {tt : TT} {tk tv : TE} {use : Option (Value → Sem Unit)} {Qf : Value → Shared → Prop} (hu : X.A.units + 1 < cLine) (hc : X.calm = true) (hN : X.N.Nodup) (I : Inv X pins σ H s) (hi : PI X tg iter wi) (ok : BlkOk X.N X.env.scope scope own)
    (hg : ∀ (s' : Shared) (G : Hp) (C : Addr) (cl : List (PySem.Str × Addr)) (fp : List Addr), PG (X.blk s' G scope (compEnvC scope cl C X.env) fp) tg g)
    (ht : ∀ (s' : Shared) (G : Hp) (C : Addr) (cl : List (PySem.Str × Addr)) (fp : List Addr), PTs (X.blk s' G scope (compEnvC scope cl C X.env) fp) ifs tt)
    (hk : ∀ (s' : Shared) (G : Hp) (C : Addr) (cl : List (PySem.Str × Addr)) (fp : List Addr), PE (X.blk s' G scope (compEnvC scope cl C X.env) fp) kx tk)
    (he : ∀ (s' : Shared) (G : Hp) (C : Addr) (cl : List (PySem.Str × Addr)) (fp : List Addr), PE (X.blk s' G scope (compEnvC scope cl C X.env) fp) vx tv)
    (hs : ∀ x, foldedSetIterable iter X.env x = pure x)
    (h : tDcT wi g tt tk tv (own.map (·.2)) σ H Q)
    (hRR : ∀ D C s' m H', Inv X pins σ H' s' → Q (.ref D) H' → s'.heap.Ns C m → FpOk X pins H' C → compPost (model X.prog X.w) X.A X.xe use Qf (.ref D) C (.ok .next) s') :
    wpAny (model X.prog X.w) X.A (comprehension (.DictComp kx vx [⟨tg, iter, ifs, 0⟩] scope pos) scope X.env pos' newDict false (eval iter X.env) use) Qf X.xe s := by
  have caught : ∀ y ∈ scope.names, y.2 = .free → ∃ c, X.env.cells.lookup y.1 = some c := fun y hy e => I.ok.has _ (ok.free y hy e)
  refine wpAny_comprehension_free (use := use) rfl hs (closure_ok caught) ok.kind (fun y hy e => by rw [ok.uniq y hy, e]) (thn (hi.run pins s σ H _ I h) fun xv sa ha => thn ha fun itv sb hb => ?_)
  obtain ⟨it, fp, tn, J, Hb, e, Ib, T, stb, fb, q⟩ := hb
  subst e
  refine wpAny_newObj_type (newEnv_comp ?_)
  generalize eD : sb.heap.objs.size = D
  obtain ⟨W, ⟨m0, w0⟩, turn⟩ := q D (Ib.hok.fresh (Nat.le_of_eq eD))
  generalize ec : ({ sb with heap := sb.heap.push { cls := .type "dict", data := .dict #[] } } : Shared) = sc
  have Ic : Inv X pins σ (upd Hb D (.dT [])) sc := by
    subst ec eD
    exact Ib.laid (t' := sb.toks) (fun b u e => Heap.get?_push_of_some _ e) (Nat.le_refl _) (dt_empty sb.heap Ib.big)
  have hc' : sc.heap = sb.heap.push { cls := .type "dict", data := .dict #[] } := by rw [← ec]
  have old : ∀ b ∈ fp, b < sb.heap.objs.size := fun b hb => by
    obtain ⟨u, e, _⟩ := T.obj _ _ stb b hb
    exact Heap.lt_size e
  generalize eG : upd Hb D (.dT []) = G at Ic w0
  have fc : ∀ b ∈ fp, FpOk X pins G b ∧ b < sc.heap.objs.size := fun b hb => by
    have l := old b hb
    have f := fb b hb
    subst eG eD
    refine ⟨⟨?_, f.2⟩, by rw [hc', Heap.size_push]; exact Nat.lt_succ_of_lt l⟩
    rw [upd_ne (Nat.ne_of_lt l)]
    exact f.1
  have stc : tn 0 sc.heap := T.keep _ _ _ stb fun b _ u e => by rw [hc']; exact Heap.get?_push_of_some _ e
  have Id := block_start Ic ok hN fc
  generalize eC : sc.heap.objs.size = C at Id
  generalize ecl : cellsFrom (C + 1) scope.names (cloFrom X.env.cells scope.names []) = cl at Id
  have pg := hg sc G C cl fp
  have pt := ht sc G C cl fp
  have pk := hk sc G C cl fp
  have pe := he sc G C cl fp
  show codeAny _ _ (.compStart (.DictComp kx vx [⟨tg, iter, ifs, 0⟩] scope pos) 0 (.ref it) (.ref D) (compEnvC scope cl C X.env))
    (compPost (model X.prog X.w) X.A X.xe use Qf (.ref D) C) { sc with heap := pushCells (sc.heap.push { cls := .type "dict", data := .dict #[] }) scope.names }
  have clear : ∀ b ∈ fp, G b = none := fun b hb => (fc b hb).1.1
  generalize ece : compEnvC scope cl C X.env = ce at Id pg pt pk pe ⊢
  have eL : ce.locals = C := by subst ece; rfl
  have hu2 : (X.blk sc G scope ce fp).A.units + 1 < cLine := hu
  generalize ed : ({ sc with heap := pushCells (sc.heap.push { cls := .type "dict", data := .dict #[] }) scope.names } : Shared) = sd at Id ⊢
  have std : tn 0 sd.heap := T.keep _ _ _ stc fun b _ u e => by rw [← ed]; exact pushCells_keeps _ _ _ _ (Heap.get?_push_of_some _ e)
  let Loop : Nat → Shared → Prop := fun m t => ∃ i F, Inv (X.blk sc G scope ce fp) [] (wipe σ (own.map (·.2))) F t ∧ tn i t.heap ∧ (∀ b ∈ fp, F b = none) ∧ W i m F
  have loop : codeAny (model X.prog X.w) X.A (.compLoop (.DictComp kx vx [⟨tg, iter, ifs, 0⟩] scope pos) 0 (.ref it) (.ref D) ce) (compPost (model X.prog X.w) X.A X.xe use Qf (.ref D) C) sd := by
    refine compLoop_anyD Loop ?_ m0 ⟨0, G, Id, std, clear, w0⟩
    rintro n t ⟨i, F, It, stt, nt, w⟩
    rcases turn i n F w with ⟨stop, qq⟩ | ⟨go, Nx, hNx, step⟩
    · refine thnF (T.done (X.blk sc G scope ce fp) rfl rfl rfl (hc) i [] t _ F (fun _ _ => False) It (at_rest (Y := X.blk sc G scope ce fp) rfl rfl It nt) stt stop) fun r u ⟨er, Iu⟩ => ?_
      subst er
      have Iv : Inv X pins σ F u := Ic.call' (ch := fp) Iu.os (Iu.base) (Iu.hok) Iu.bare fun b hb => let f := (fc b hb).1; ⟨f.2.2.2.1, f.2.1, f.2.2.2.2.1, f.2.2.2.2.2⟩
      have nC : F C = none := by
        have z : F ce.locals = none := Iu.free
        rwa [eL] at z
      have Il := Iu.loc
      obtain ⟨m, hm, _⟩ := Il
      have hm : u.heap.Ns ce.locals m := hm
      rw [eL] at hm
      exact hRR D C u m F Iv qq hm (Ic.fpOk (Nat.le_of_eq eC) nC)
    · refine thnF (T.item (X.blk sc G scope ce fp) rfl rfl rfl (hc) i [] t _ F (fun _ _ => False) It (at_rest (Y := X.blk sc G scope ce fp) rfl rfl It nt) stt go) fun r u ⟨uv, er, hu⟩ => ?_
      subst er
      refine thnF hu fun _ t1 ⟨x, F1, I1, r1, y1, st1, n1⟩ => ?_
      have I1' := I1.pinned (at_rest (Y := X.blk sc G scope ce fp) rfl rfl I1 n1) (T.obj _ _ st1)
      refine thnF (pg.run _ t1 _ F1 x uv _ I1' r1 (step x F1 y1)) fun _ t2 ⟨σ2, F2, I2, ew, q2⟩ => ?_
      refine thnF (pt.run _ t2 σ2 F2 _ I2 q2) fun b t3 ⟨F3, I3, q3⟩ => ?_
      have turned : ∀ {t' : Shared} {F' : Hp}, Inv (X.blk sc G scope ce fp) ([] ++ pinsAt fp t1.heap) σ2 F' t' → Nx F' → ∃ m, m < n ∧ Loop m t' := fun {t' F'} I' nx => by
        obtain ⟨m', hm, w'⟩ := hNx F' nx
        have keep : ∀ b ∈ fp, ∀ o, t1.heap.get? b = some o → t'.heap.get? b = some o ∧ F' b = none := fun b hb o e =>
          have z := I'.pin (b, o) (List.mem_append_right _ (List.mem_append_right _ (mem_pinsAt hb e)))
          ⟨z.1, z.2.1⟩
        refine ⟨m', hm, i + 1, F', (I'.unpinned (pins := [])).weak (by rw [← ew, wipe_length]) (fun j v e => ?_), T.keep _ _ _ st1 fun b hb o e => (keep b hb o e).1, fun b hb => ?_, w'⟩
        · rw [← ew] at e
          exact (wipe_some e).1
        · obtain ⟨o, e, _⟩ := T.obj _ _ st1 b hb
          exact (keep b hb o e).2
      cases b
      · exact turned I3 q3
      · refine thnF (pk.run _ t3 σ2 F3 _ I3 q3) fun z t4 ⟨yv, F4, I4, r4, q4⟩ => ?_
        refine thnF (pe.run _ t4 σ2 F4 _ I4 q4) fun z2 t5 ⟨zv, F5, I5, r5, kvs, k, bb, ey, hb5, hD5, hz5, nx⟩ => ?_
        subst ey
        cases (show z = Value.ref bb from r4)
        exact dictSetT (X := X.blk sc G scope ce fp) hu2 I5 hD5 hz5 hb5 r5 fun t6 I6 => turned I6 nx
  exact codeAny_compStart_dict loop (T.self X.A 0 _ _ _ std loop)

theorem ps_setDcT {i : Nat} {y : Str} {py : Pos} {kx vx tg iter : Expr} {ifs : List Expr} {scope : Scope} {own : List (Str × Nat)} {pos spos : Pos} {wi : TI} {g : TG} {tt : TT} {tk tv : TE} (hu : X.A.units + 1 < cLine) (hc : X.calm = true) (hN : X.N.Nodup) (hy : X.N[i]? = some y) (hyl : X.env.scope.names.lookup y = some .local)
    (hsw : swapsWith (.DictComp kx vx [⟨tg, iter, ifs, 0⟩] scope pos) (some (.Name y py)) spos.line X.env = pure true) (hi : PI X tg iter wi) (ok : BlkOk X.N X.env.scope scope own)
    (hg : ∀ (s' : Shared) (G : Hp) (C : Addr) (cl : List (PySem.Str × Addr)) (fp : List Addr), PG (X.blk s' G scope (compEnvC scope cl C X.env) fp) tg g)
    (ht : ∀ (s' : Shared) (G : Hp) (C : Addr) (cl : List (PySem.Str × Addr)) (fp : List Addr), PTs (X.blk s' G scope (compEnvC scope cl C X.env) fp) ifs tt)
    (hk : ∀ (s' : Shared) (G : Hp) (C : Addr) (cl : List (PySem.Str × Addr)) (fp : List Addr), PE (X.blk s' G scope (compEnvC scope cl C X.env) fp) kx tk)
    (he : ∀ (s' : Shared) (G : Hp) (C : Addr) (cl : List (PySem.Str × Addr)) (fp : List Addr), PE (X.blk s' G scope (compEnvC scope cl C X.env) fp) vx tv)
    (hs : ∀ x, foldedSetIterable iter X.env x = pure x := by intro _; rfl) :
    PS X (.Assign [.Name y py] (.DictComp kx vx [⟨tg, iter, ifs, 0⟩] scope pos) spos) (tAsg (tDcT wi g tt tk tv (own.map (·.2))) (gName i)) := by
  refine ⟨fun pins s σ H D I h => ?_⟩
  rw [exec_Assign_Name_used _ _ _ _ hsw]
  refine wpAny_bind (wpAny_standAt (wpAny_bind ?_))
  show wpAny _ X.A (do let _ ← comprehension (.DictComp kx vx [⟨tg, iter, ifs, 0⟩] scope pos) scope X.env (firstIterPos [⟨tg, iter, ifs, 0⟩] pos) newDict false (eval iter X.env) (some (assign (.Name y py) X.env))) _ _ s
  have h : tDcT wi g tt tk tv (own.map (·.2)) σ H (fun x H1 => gName i x σ H1 D.nx) := h
  refine wpAny_bind (thn (dcT_core (Qf := fun _ s' => SP X pins D .next s') hu hc hN I hi ok hg ht hk he hs h fun L C s' m H' I' q hn f => ?_) fun _ s' hq => wpAny_pure (wpAny_pure hq))
  show wpAny _ _ (assign (.Name y py) X.env (.ref L)) _ _ _
  refine wpAny_assign_Name (store_ok2 (v := V.ref L) I' hN hy (.inl hyl) rfl (fun s2 I2 ⟨a, sb, ha⟩ => ?_) (.inr hyl))
  obtain ⟨f0, f1, f2, f3, f4, f5⟩ := f
  have haC : C ≠ a := by
    rcases ha with z | z
    · rw [z]; exact f1
    · exact fun e => f4 y a z e.symm
  refine ⟨m, hn.sameBut sb haC, fun h3 sb3 => ?_⟩
  exact ⟨_, H', I2.turned (t' := s2.toks) (fun b o hb e => (sb3.2 b hb).trans e) f0 f1 f3 f4 f5, q⟩
theorem sw_trueD {kx vx : Expr} {gs : List Comprehension} {scope : Scope} {pos py : Pos} {y : Str} {l : Nat} {env : Env} (hk : env.scope.kind = .function) (hy : env.scope.names.lookup y = some .local) (hl : (py.line == pos.line) = true)
    (ha : (scope.names.any fun (n, k) => n == y && (k == .local || k == .cell)) = false) : swapsWith (.DictComp kx vx gs scope pos) (some (.Name y py)) l env = pure true := by
  have ky : env.kindOf y = some .local := hy
  have hb : env.blockKind = .function := by unfold Env.blockKind; rw [hk]; rfl
  unfold swapsWith
  simp only [hb, ky, ha, Expr.pos, hl]
  rfl
end
section
variable {X : Cx} {E : XK} {N : List Str} {sc : Scope} {ks : List (Option NameKind)} {own : List Nat} {k : Nat}
theorem csetDcT (C : Ctx X E N sc ks own k) (i : Nat) (ow : List (Str × Nat)) (ks' : List (Option NameKind)) {y : Str} {py : Pos} {vsg : List Nat} {kx vx tg iter : Expr} {ifs : List Expr} {scope : Scope} {pos spos : Pos} {fi : SI} {g : SG} {t : SB} {fk fv : SF} (hi : JI X E tg iter fi) (hB : BlkD X N sc scope ks' ow k vsg tg kx vx ifs g t fk fv)
    (hN : N[i]? = some y := by rfl) (hk : ks[i]? = some (some .local) := by rfl) (ok : blkAll N sc scope ks' ow = true := by decide +kernel) (hv : ∀ i ∈ vsg, i ∈ ow.map (·.2) := by decide) (hl : (py.line == pos.line) = true := by rfl)
    (ha : (scope.names.any fun (n, k) => n == y && (k == .local || k == .cell)) = false := by decide +kernel) (hs : ∀ x, foldedSetIterable iter X.env x = pure x := by intro _; rfl) :
    JS X E (.Assign [.Name y py] (.DictComp kx vx [⟨tg, iter, ifs, 0⟩] scope pos) spos) (sAsg (fDc true (ow.map (·.2)) fi g t fk fv) (gSet i)) := by
  obtain ⟨o1, o2, o3, o4⟩ := blkAll_ok ok
  have hb := fun s H Cc cl fp => hB s H Cc cl fp (C.blk o4 o2 o3 s H Cc cl fp)
  have hy : X.env.scope.names.lookup y = some .local := by rw [C.hsc]; have := C.kind hN; rw [hk] at this; exact (Option.some.inj this).symm
  refine PS.weak (ps_setDcT (wi := tI X.K X.mg E fi) (g := tG X.K X.mg EF vsg g) (tt := tT X.K X.mg EF t) (tk := tE X.K X.mg EF fk) (tv := tE X.K X.mg EF fv) C.hu1 C.calm (by rw [C.hN]; exact C.nd) (by rw [C.hN]; exact hN) hy (sw_trueD (by rw [C.hsc]; exact C.kind0) hy hl ha) hi (by rw [C.hN, C.hsc]; exact o1) (fun s H Cc cl fp => (hb s H Cc cl fp).1) (fun s H Cc cl fp => (hb s H Cc cl fp).2.1) (fun s H Cc cl fp => (hb s H Cc cl fp).2.2.1) (fun s H Cc cl fp => (hb s H Cc cl fp).2.2.2) hs) fun D σ H ⟨ρ, M, σd, R, en, hp⟩ => ?_
  exact tDcT_of (E := E) hv ⟨ρ, M, σd, R, en, hp.bind.imp fun d M1 ρ1 H1 x1 R1 hp1 v rv => hp1.here R1 _ ((en.ext R x1).set i rv)⟩
end
end KP

/-! dict(a list of pairs), the keys tuples -/
namespace KP
open PySem PySem.Spec PyProof.Rows L2
section
variable {X : Cx}
theorem pairsT_of {pins : List (Addr × Obj)} {σ : L2.St} {H : Hp} {s : Shared} (I : Inv X pins σ H s) : ∀ {ps : List Addr} {kvs : List (List Key × V)}, Paired (fun p kv => ∃ b, SqT X.K H p [.ref b, kv.2] ∧ H b = some (.tup (kv.1.map kV))) ps kvs →
    ∃ qs : List (List Key × Addr × Value), KT H kvs qs ∧ qs.length = ps.length ∧ ∀ (j : Nat) (q : List Key × Addr × Value), qs[j]? = some q → ∃ b : Addr, ps[j]? = some b ∧ IsTup s.heap b #[.ref q.2.1, q.2.2]
  | _, _, .nil => ⟨[], .nil, rfl, fun j q e => by simp at e⟩
  | _, _, .cons (a := p) (b := kv) h t => by
    obtain ⟨qs, r, hl, hp⟩ := pairsT_of I t
    obtain ⟨b, hs, hb⟩ := h
    obtain ⟨its, rv, ht, _⟩ := I.tuple hs
    obtain ⟨u, y, ei, ru, ry⟩ := vals2 rv
    subst ei
    cases (show u = Value.ref b from ru)
    refine ⟨(kv.1, b, y) :: qs, .cons ⟨rfl, hb, ry⟩ r, by rw [List.length_cons, List.length_cons, hl], fun j q e => ?_⟩
    cases j with
    | zero =>
      have e' : (kv.1, b, y) = q := Option.some.inj e
      subst e'
      exact ⟨p, rfl, ht⟩
    | succ j =>
      obtain ⟨b', e1, e2⟩ := hp j q (by simpa using e)
      exact ⟨b', by simpa using e1, e2⟩
theorem call_dictT (hcalm : X.calm = true) (hu : X.A.units + 100 < cLine) : CallR X (.type "dict") (fun xs H Q => ∃ (a : Addr) (ps : List Addr) (kvs : List (List Key × V)), xs = [.ref a] ∧ SqL X.K H a (ps.map V.ref) ∧ Paired (fun p kv => ∃ b, SqT X.K H p [.ref b, kv.2] ∧ H b = some (.tup (kv.1.map kV))) ps kvs ∧
    ∀ p, H p = none → Q (.ref p) (upd H p (.dT (mergeT [] kvs)))) := by
  intro pins s σ H xs us Q I r q
  obtain ⟨a, ps, kvs, ex, hq, hp, q⟩ := q
  subst ex
  obtain ⟨u, eu, rx⟩ := vals1 r
  subst eu
  cases rx
  obtain ⟨its, rv, pl, hz⟩ := I.list hq
  have ei := refs_at rv
  subst ei
  rw [List.length_map] at hz
  obtain ⟨qs, rel, hl, hpr⟩ := pairsT_of I hp
  obtain ⟨o, n, ho, hc, hd, hdat⟩ := pl
  have hlen : qs.length ≤ sizeLine := by rw [hl]; exact hz
  have hks : ∀ x ∈ qs, (tupleKind (mixKind X.prog X.w)).is s.heap x.1 x.2.1 := by
    have all : ∀ {l : List (List Key × V)} {m : List (List Key × Addr × Value)}, KT H l m → ∀ x ∈ m, (tupleKind (mixKind X.prog X.w)).is s.heap x.1 x.2.1 := by
      intro l m q
      induction q with
      | nil => intro x hx; exact nomatch hx
      | @cons p q ps qs hq t ih =>
        intro x hx
        rcases List.mem_cons.mp hx with e | hx
        · subst e
          exact key_of I.hok (by rw [← hq.1]; exact hq.2.1)
        · exact ih x hx
    exact all rel
  refine PySem.call_dict_pairsH (knd := tupleKind (mixKind X.prog X.w)) (ps := qs) (PySem.PairArg.list a (ps.map Value.ref).toArray (fun j => ps.getD j 0) (qs.map fun q => (Value.ref q.2.1, q.2.2))) (I.ok.hd hcalm) ?_ ⟨⟨o, n, ho, hc, hd, hdat⟩, ?_⟩ ⟨by simp, fun i key v e => ?_⟩ (fun h' hk x hx => tupleKind_stays.stays (fun b o _ _ e _ => hk b o (Nat.ne_of_lt (Heap.lt_size e)) (fun z => nomatch z) e) (hks x hx)) (by rw [List.length_map]; exact hlen) fun h' tk hd' k => ?_
  · have h1 : X.A.in1.in1.units = X.A.units + 2 := rfl
    show X.A.in1.in1.units < cLine
    omega
  · refine ⟨by simp [hl], fun j kk v hj => ?_⟩
    rw [List.getElem?_map] at hj
    cases eq : qs[j]? with
    | none => rw [eq] at hj; cases hj
    | some q0 =>
      rw [eq] at hj
      cases hj
      obtain ⟨b, e1, e2⟩ := hpr j q0 eq
      refine ⟨by simp [List.getD_eq_getElem?_getD, e1], .inl ?_⟩
      have : ps.getD j 0 = b := by rw [List.getD_eq_getElem?_getD, e1]; rfl
      show s.heap.IsTuple (ps.getD j 0) #[Value.ref q0.2.1, q0.2.2]
      rw [this]
      exact e2
  · have e : (qs.map fun q => (Value.ref q.2.1, q.2.2))[i]? = some (key, v) := e
    rw [List.getElem?_map] at e
    cases eq : qs[i]? with
    | none => rw [eq] at e; cases e
    | some q0 => rw [eq] at e; cases e; exact ⟨q0.1, q0.2.1, rfl, rfl⟩
  · have hm : (s.heap.objs.size == sysModules) = false := beq_eq_false_iff_ne.mpr (Nat.ne_of_gt I.big)
    have hfr := I.hok.fresh (Nat.le_refl s.heap.objs.size)
    have hl2 : (mergeT [] kvs).length ≤ sizeLine := by
      refine Nat.le_trans (mergeT_len kvs []) ?_
      rw [List.length_nil, Nat.zero_add, rel.length]
      exact hlen
    obtain ⟨o', es, ep', hq', h2, h3, h4, _, h5⟩ := hd'
    exact ⟨.ref s.heap.objs.size, upd H s.heap.objs.size (.dT (mergeT [] kvs)), I.laid (t' := tk) (fun b o e => k b o (fun z => nomatch z) e) (Nat.le_refl _) (show ObjOk X.prog X.w _ _ _ (.dT (mergeT [] kvs)) from ⟨hl2, hm, _, (KT.merge rel .nil).keeps (fun b ys eb => by
      rw [upd_ne (fun z => by rw [z, hfr] at eb; cases eb)]; exact eb), o', es, ep', hq', h2, h3, h4, h5⟩), rfl, q _ hfr⟩
end
/-- the pairs of a list -/
def prsT : List D → Option (List (List Key × D))
  | [] => some []
  | .tup [k, v] :: ds => match keyT k, prsT ds with
    | some k, some r => some ((k, v) :: r)
    | _, _ => none
  | _ => none
def cDictT : List D → Mem → Out D := fun ds M => match ds with
  | [.lst prs] => match prsT prs with
    | some kvs => .ok (.ref M.length) (M ++ [.dtt (mergeD [] kvs)])
    | none => .bad
  | _ => .bad
theorem prsT_ok {K : PySem.W.Frag} {ρ : Nu} {H : Hp} : ∀ {ds : List D} {vs : List V} {kvs : List (List Key × D)}, Dens K ρ H ds vs → prsT ds = some kvs → ∃ (ps : List Addr) (es : List (List Key × V)), vs = ps.map V.ref ∧ Paired (fun p kv => ∃ b, SqT K H p [.ref b, kv.2] ∧ H b = some (.tup (kv.1.map kV))) ps es ∧ Ents K ρ H kvs es
  | [], _, kvs, h, e => by cases h; cases e; exact ⟨[], [], rfl, .nil, .nil⟩
  | .tup [k, v] :: ds, _, kvs, h, e => by
    cases h with
    | cons r t =>
      unfold prsT at e
      split at e
      · rename_i kk rr hk hr
        cases e
        obtain ⟨ps, es, rfl, pp, q⟩ := prsT_ok t hr
        cases r with
        | tup hs dd =>
          cases dd with
          | cons r1 dd =>
            cases dd with
            | cons r2 dd =>
              cases dd
              obtain ⟨b, rfl, eb⟩ := keyT_ok r1 hk
              exact ⟨_ :: ps, (kk, _) :: es, rfl, .cons ⟨b, hs.sq, eb⟩ pp, q.cons r2⟩
      · cases e
section
variable {X : Cx} {E : XK}
theorem oc_dictT (hcalm : X.calm = true) (hu : X.A.units + 100 < cLine) : CallR X (.type "dict") (rC X.K X.mg E cDictT) := by
  intro pins s σ H xs us Q I r h
  obtain ⟨ρ, M, ds, R, rd, hp⟩ := h
  unfold cDictT at hp
  split at hp
  · rename_i prs
    obtain ⟨v, rfl, r1⟩ := dens1 rd
    split at hp
    · rename_i kvs ek
      cases r1 with
      | @lst _ a vs h1 h2 h3 t =>
        obtain ⟨ps, es, rfl, pp, q⟩ := prsT_ok t ek
        refine call_dictT hcalm hu pins s σ H _ us Q I r ⟨a, ps, es, rfl, .inl (.inl h3), pp, fun p np => ?_⟩
        have xn : Ext ρ H (ρ.push p) (upd H p (.dT (mergeT [] es))) := Ext.new np
        have q2 := Ents.mergeT (q.ext R xn) (.nil : Ents X.K (ρ.push p) (upd H p (.dT (mergeT [] es))) [] [])
        exact hp (ρ.push p) _ xn (R.new np ⟨_, upd_same, q2.1, q2.2⟩) (.ref p) (.ref (by rw [← R.len]; simp [Nu.push]))
    · exact hp.elim
  · exact hp.elim
end
end KP

/-! len of a dict whose keys are tuples -/
namespace KP
open PySem PySem.Spec PyProof.Rows L2
section
variable {X : Cx} {E : XK}
theorem call_lenT : CallR X (.builtin "len") (fun xs H Q => ∃ a kvs, xs = [V.ref a] ∧ Rd H a (.dT kvs) ∧ Q (.int kvs.length) H) := by
  intro pins s σ H xs us Q I r h
  obtain ⟨a, kvs, rfl, e, q⟩ := h
  obtain ⟨u, rfl, ru⟩ := vals1 r
  cases ru
  obtain ⟨z, hd, ys, rel, dd⟩ := dt_rd I.hok e
  have hm : s.heap.DictKeyed (tupleKind (mixKind X.prog X.w)) a (pairsH ys) := ⟨ys, dd, rfl⟩
  have hl : (pairsH ys).length = kvs.length := by rw [show (pairsH ys).length = ys.length by unfold pairsH; simp]; exact rel.length.symm
  refine PyProof.Rows.call_len_slot (n := (pairsH ys).length) hm.typeIs F.slot_dict_len (fun Q' hq => len_keyed hd hm hq) (by omega) (by rw [sizeLine_eq] at z; rw [hl]; omega) ?_
  rw [hl]
  exact ⟨.int kvs.length, H, I.tok _, ⟨_, rfl⟩, q⟩
def cLenK : List D → Mem → Option D := fun ds M => match ds with
  | [x] => match dttO x M with
    | some (_, kvs) => some (.int kvs.length)
    | none => none
  | _ => none
theorem oc_lenK : CallR X (.builtin "len") (rC X.K X.mg E (pureC cLenK)) := by
  intro pins s σ H xs us Q I r h
  obtain ⟨ρ, M, ds, R, rd, hp⟩ := h
  obtain ⟨d, e, hp2⟩ := optO_post hp
  unfold cLenK at e
  split at e
  · split at e
    · rename_i n kvs hd
      cases e
      obtain ⟨v, rfl, r1⟩ := dens1 rd
      obtain ⟨a, es, rfl, hr, h3, t⟩ := dttO_some R r1 hd
      refine call_lenT pins s σ H _ us Q I r ⟨a, es, rfl, h3, ?_⟩
      rw [← t.length]
      exact hp2.here R _ (.int _)
    · cases e
  · cases e
end
end KP

/-! str(i), f-strings, split, startswith, int(text) -/
namespace KP
open PySem PySem.Spec PyProof.Rows L2
/-- how an int is written -/
def decL (i : Int) : List Nat := (Str.ofString (toString i)).cps.toList
theorem decL_str (i : Int) : (⟨(decL i).toArray⟩ : Str) = Str.ofString (toString i) := SX.S_tl _
theorem decL_nat (n : Nat) : decL (n : Nat) = TL.numL n := TL.tl_num n
section
variable {X : Cx} {E : XK}
def cStr : List D → Mem → Option D := fun ds _ => match ds with
  | [.int i] => if i.natAbs.log2 < 1920 then some (.str (decL i)) else none
  | [.str a] => some (.str a)
  | _ => none
theorem oc_str : CallR X (.type "str") (rC X.K X.mg E (pureC cStr)) := by
  intro pins s σ H xs us Q I r h
  obtain ⟨ρ, M, ds, R, rd, hp⟩ := h
  obtain ⟨d, e, hp⟩ := optO_post hp
  unfold cStr at e
  split at e
  · rename_i i
    obtain ⟨v, rfl, r1⟩ := dens1 rd
    cases r1
    split at e
    · rename_i hz
      cases e
      refine call_str_int pins s σ H _ us Q I r ⟨_, rfl, hz, ?_⟩
      have := hp.here R _ (.str (decL i))
      rw [decL_str] at this
      exact this
    · cases e
  · rename_i a
    obtain ⟨v, rfl, r1⟩ := dens1 rd
    cases r1
    cases e
    exact SkE.call_str_str pins s σ H _ us Q I r ⟨_, rfl, hp.here R _ (.str a)⟩
  · cases e
/-- int(x), x an int, a truth value or a text of digits -/
def cIntS : List D → Mem → Option D := fun ds M => match ds with
  | [.str a] => if a.length ≤ 640 then (match PySem.intText? ⟨a.toArray⟩ with
    | some n => some (.int n)
    | none => none) else none
  | ds => cInt ds M
theorem oc_intS : CallR X (.type "int") (rC X.K X.mg E (pureC cIntS)) := by
  intro pins s σ H xs us Q I r h
  obtain ⟨ρ, M, ds, R, rd, hp⟩ := id h
  obtain ⟨d, e, hp⟩ := optO_post hp
  unfold cIntS at e
  split at e
  · rename_i a
    obtain ⟨v, rfl, r1⟩ := dens1 rd
    cases r1
    split at e
    · rename_i hl
      split at e
      · rename_i n hn
        cases e
        exact call_int_str pins s σ H _ us Q I r ⟨_, _, rfl, hn, by show (SX.S a).length ≤ 640; rw [SX.S_len]; exact hl, hp.here R _ (.int _)⟩
      · cases e
    · cases e
  · refine oc_int (E := E) pins s σ H xs us Q I r ⟨ρ, M, _, R, rd, ?_⟩
    unfold pureC; rw [e]; exact hp
/-- x.startswith(y) -/
def mStarts : D → List D → Mem → Out D := fun o ds M => match o, ds with
  | .str a, [.str b] => .ok (.bl (Txt.startswith ⟨a.toArray⟩ ⟨b.toArray⟩)) M
  | _, _ => .bad
theorem om_starts : MtR X "str.startswith" (rM X.K X.mg E mStarts) := by
  intro pins s σ H x xs v us Q I rx rs h
  obtain ⟨ρ, M, d, ds, R, r1, r2, hp⟩ := h
  unfold mStarts at hp
  split at hp
  · cases r1
    cases r2 with
    | cons q1 q2 =>
      cases q2
      cases q1
      exact mt_startswith pins s σ H _ _ v us Q I rx rs ⟨_, _, rfl, rfl, hp.here R _ (.bl _)⟩
  · exact hp.elim
/-- x.split(y) -/
def mSplit : D → List D → Mem → Out D := fun o ds M => match o, ds with
  | .str a, [.str b] => if b ≠ [] ∧ b.all (· < 256) = true ∧ a.length + 2 ≤ 16777216 then .ok (.lst ((TL.spl b 0 [] a).map .str)) M else .bad
  | _, _ => .bad
theorem dens_strL {K : PySem.W.Frag} {ρ : Nu} {H : Hp} : ∀ zs : List (List Nat), Dens K ρ H (zs.map .str) (zs.map fun z => V.str ⟨z.toArray⟩)
  | [] => .nil
  | z :: zs => .cons (.str z) (dens_strL zs)
theorem om_split : MtR X "str.split" (rM X.K X.mg E mSplit) := by
  intro pins s σ H x xs v us Q I rx rs h
  obtain ⟨ρ, M, d, ds, R, r1, r2, hp⟩ := h
  unfold mSplit at hp
  split at hp
  · rename_i a b
    split at hp
    · rename_i hc
      cases r1
      cases r2 with
      | cons q1 q2 =>
        cases q2
        cases q1
        have hb : (SX.S b).length ≠ 0 := by rw [SX.S_len]; exact fun z => hc.1 (List.eq_nil_of_length_eq_zero z)
        refine mt_split pins s σ H _ _ v us Q I rx rs ⟨_, _, rfl, rfl, by simpa using hb, by show (SX.S a).length + 2 ≤ sizeLine; rw [SX.S_len, sizeLine_eq]; exact hc.2.2, ?_⟩
        have e : Txt.split ⟨a.toArray⟩ ⟨b.toArray⟩ = (TL.spl b 0 [] a).map SX.S := SX.split_S hc.1 hc.2.1
        rw [e]
        intro p np
        have := hp.lstTmp R (dens_strL _) p np
        rw [List.map_map]
        exact this
    · exact hp.elim
  · exact hp.elim
/-- {x} -/
def fFmt (f : SF) : SF := fun σ M => (f σ M).bind fun x M1 => match x with
  | .str y => if y.length ≤ 16777216 then .ok (.str y) M1 else .bad
  | .int i => if i.natAbs.log2 < 1920 then .ok (.str (decL i)) M1 else .bad
  | _ => .bad
theorem je_fmt {e : Expr} {f : SF} {pos : Pos} (h : JE X E e f) : JE X E (.FormattedValue e (-1) none pos) (fFmt f) := by
  refine PE.weak (pe_fmt h) fun σ H Q ⟨ρ, M, σd, R, en, hp⟩ => ⟨ρ, M, σd, R, en, hp.bind.imp fun x M1 ρ1 H1 x1 R1 hp1 v rv => ?_⟩
  cases x with
  | str y =>
    cases rv
    dsimp only at hp1
    split at hp1
    · rename_i hl
      exact .inl ⟨_, rfl, by show (SX.S y).length ≤ sizeLine; rw [SX.S_len, sizeLine_eq]; exact hl, hp1.here R1 _ (.str y)⟩
    · exact hp1.elim
  | int i =>
    cases rv
    dsimp only at hp1
    split at hp1
    · rename_i hl
      refine .inr ⟨_, rfl, hl, ?_⟩
      have := hp1.here R1 _ (.str (decL i))
      rw [decL_str] at this
      exact this
    · exact hp1.elim
  | _ => exact hp1.elim
inductive JJ (X : Cx) (E : XK) : List Expr → List SF → Prop
  | nil : JJ X E [] []
  | cons {e : Expr} {f : SF} {es : List Expr} {fs : List SF} (h : JE X E e f) (t : JJ X E es fs) : JJ X E (e :: es) (f :: fs)
theorem JJ.pj {es : List Expr} {fs : List SF} (h : JJ X E es fs) : PJ X es (fs.map (tE X.K X.mg E)) := by
  induction h with
  | nil => exact .nil
  | cons h _ ih => exact .cons h ih
def fJs : List SF → List Nat → SF
  | [], acc => fun _ M => .ok (.str acc) M
  | f :: fs, acc => fun σ M => (f σ M).bind fun x M1 => match x with
    | .str y => if acc.length + y.length ≤ 16777216 then fJs fs (acc ++ y) σ M1 else .bad
    | _ => .bad
theorem tJs_of : ∀ (fs : List SF) (acc : List Nat) (σ : L2.St) (H : Hp) (Q : VK), tE X.K X.mg E (fJs fs acc) σ H Q → tJs (fs.map (tE X.K X.mg E)) (SX.S acc) σ H fun out H1 => Q (.str out) H1
  | [], acc, σ, H, Q, ⟨ρ, M, σd, R, en, hp⟩ => hp.here R _ (.str acc)
  | f :: fs, acc, σ, H, Q, ⟨ρ, M, σd, R, en, hp⟩ => by
    refine ⟨ρ, M, σd, R, en, Post.imp (Post.bind hp) fun x M1 ρ1 H1 x1 R1 hp1 v rv => ?_⟩
    cases x with
    | str y =>
      cases rv
      dsimp only at hp1
      split at hp1
      · rename_i hl
        refine ⟨SX.S y, rfl, by rw [SX.S_cat, SX.S_len, List.length_append, sizeLine_eq]; exact hl, ?_⟩
        rw [SX.S_cat]
        exact tJs_of fs (acc ++ y) σ H1 Q ⟨ρ1, M1, σd, R1, en.ext R x1, hp1⟩
      · exact hp1.elim
    | _ => exact hp1.elim
theorem je_joined {v1 v2 : Expr} {rest : List Expr} {fs : List SF} {pos : Pos} (h : JJ X E (v1 :: v2 :: rest) fs) : JE X E (.JoinedStr (v1 :: v2 :: rest) pos) (fJs fs []) :=
  PE.weak (pe_joined h.pj) fun σ H Q h => tJs_of fs [] σ H Q h
end
end KP

/-! dict(zip(a tuple, a tuple)), the keys tuples -/
namespace KP
open PySem PySem.Spec PyProof.Rows L2
section
variable {prog : Program} {w : World} {A : Around} {E : Value → Shared → Prop} {s : Shared} {z TI TO T i1 i2 l1 l2 : Addr} {xs ys : Array Value} {k : Nat}
structure TZ (h : Heap) (TI i1 i2 l1 l2 : Addr) (xs ys : Array Value) (k : Nat) : Prop where
  pr : IsPair h TI (.ref i1) (.ref i2)
  one : h.IsTupleIter i1 l1 k
  two : h.IsTupleIter i2 l2 k
  left : h.IsTuple l1 xs
  right : h.IsTuple l2 ys
theorem TZ.held {h h' : Heap} (t : TZ h TI i1 i2 l1 l2 xs ys k) (e : ∀ b ∈ [TI, i1, i2, l1, l2], ∀ o, h.get? b = some o → h'.get? b = some o) : TZ h' TI i1 i2 l1 l2 xs ys k :=
  ⟨e TI (by simp) _ t.pr, t.one.at fun o => e i1 (by simp) o, t.two.at fun o => e i2 (by simp) o, t.left.at fun o => e l1 (by simp) o, t.right.at fun o => e l2 (by simp) o⟩
/-- the next pair while the one before is still out -/
theorem tz_body {f : Bool} {oT : Obj} {x y : Value} {R : Value → Shared → Prop} (D : ZipApart z TI TO i1 i2 l1 l2) (hz : IsZipHeld s.heap z TI TO T f) (hT : s.heap.get? T = some oT) (t : TZ s.heap TI i1 i2 l1 l2 xs ys k)
    (hx : xs[k]? = some x) (hy : ys[k]? = some y) (hQ : ∀ h', IsZipHeld h' z TI TO T true → TZ h' TI i1 i2 l1 l2 xs ys (k + 1) → IsPair h' s.heap.objs.size x y →
      (∀ c o, c ≠ z → c ≠ i1 → c ≠ i2 → s.heap.get? c = some o → h'.get? c = some o) → R (.ref s.heap.objs.size) { s with heap := h' }) :
    wpAny (model prog w) A (Builtin.«zip.__next__» ⟨[.ref z], []⟩) (fun fin s' => ∃ v, fin = .done (.ret v) ∧ R v s') E s := by
  show wpAny _ _ (field (.ref z) 2 >>= _) _ _ _; refine wpAny_bind (wpAny_field hz rfl (x := .bool false) rfl ?_)
  show wpAny _ _ (field (.ref z) 3 >>= _) _ _ _; refine wpAny_bind (wpAny_field hz rfl (x := .ref TI) rfl (wpAny_bind (wpAny_seqItems t.pr rfl ?_)))
  show wpAny _ _ (Builtin.SmallTypes.ownedTupleIsFree (.ref z) >>= _) _ _ _; refine wpAny_bind (wpAny_tupleHeld_zip hz hT fun a za sa => ?_)
  simp only [Bool.false_eq_true, if_false]; refine wpAny_bind ?_
  rw [← Array.forIn_toList]; simp only [List.forIn_cons, List.forIn_nil]
  refine wpAny_bind (wpAny_bind (wpAny_holding ?_)); show wpAny _ _ (Builtin.SmallTypes.nextOf (.ref i1) >>= _) _ _ _
  refine wpAny_bind (wpAny_nextOf_tuple_item (s := { s with heap := a }) (t.one.extBut sa.extBut D.i1z) (t.left.at fun o e => sa.extBut l1 o D.l1z e) hx fun b ib sb => wpAny_pure (wpAny_pure ?_))
  refine wpAny_bind (wpAny_bind (wpAny_holding ?_)); show wpAny _ _ (Builtin.SmallTypes.nextOf (.ref i2) >>= _) _ _ _
  refine wpAny_bind (wpAny_nextOf_tuple_item (s := { s with heap := b }) ((t.two.extBut sa.extBut D.i2z).extBut sb.extBut D.i12.symm) (t.right.at fun o e => sb.extBut l2 o D.l2i1 (sa.extBut l2 o D.l2z e)) hy fun c ic sc => wpAny_pure (wpAny_pure (wpAny_pure ?_)))
  show wpAny _ _ (newTuple [x, y] >>= _) _ _ _; refine wpAny_bind (wpAny_newTuple (wpAny_pure ⟨_, rfl, ?_⟩))
  have size : c.objs.size = s.heap.objs.size := by rw [sc.1, sb.1, sa.1]
  have zc : IsZipHeld c z TI TO T true := sc.extBut _ _ D.i2z.symm (sb.extBut _ _ D.i1z.symm za)
  have kp : ∀ q o, q ≠ z → q ≠ i1 → q ≠ i2 → s.heap.get? q = some o → c.get? q = some o := fun q o n1 n2 n3 e => sc.extBut _ _ n3 (sb.extBut _ _ n2 (sa.extBut _ _ n1 e))
  have up : ∀ q o, c.get? q = some o → (c.push { cls := .type "tuple", data := .seq #[x, y] }).get? q = some o := fun q o e => Heap.get?_push_of_some _ e
  have tc : TZ c TI i1 i2 l1 l2 xs ys (k + 1) := ⟨kp _ _ D.TIz D.TIi1 D.TIi2 t.pr, ib.extBut sc.extBut D.i12, ic, t.left.at fun o e => kp _ o D.l1z D.l1i1 D.l1i2 e, t.right.at fun o e => kp _ o D.l2z D.l2i1 D.l2i2 e⟩
  have new : IsPair (c.push { cls := .type "tuple", data := .seq #[x, y] }) c.objs.size x y := Heap.get?_push_size _ rfl
  show R (.ref c.objs.size) _
  rw [size] at new ⊢
  exact hQ _ (up _ _ zc) (tc.held fun b _ o e => up b o e) new fun q o n1 n2 n3 e => up q o (kp q o n1 n2 n3 e)
theorem tz_item {f : Bool} {oT : Obj} {x y : Value} {Q : Option Value → Shared → Prop} (D : ZipApart z TI TO i1 i2 l1 l2) (hz : IsZipHeld s.heap z TI TO T f) (hT : s.heap.get? T = some oT) (t : TZ s.heap TI i1 i2 l1 l2 xs ys k)
    (hx : xs[k]? = some x) (hy : ys[k]? = some y) (hQ : ∀ h', IsZipHeld h' z TI TO T true → TZ h' TI i1 i2 l1 l2 xs ys (k + 1) → IsPair h' s.heap.objs.size x y →
      (∀ c o, c ≠ z → c ≠ i1 → c ≠ i2 → s.heap.get? c = some o → h'.get? c = some o) → Q (some (.ref s.heap.objs.size)) { s with heap := h' }) :
    wpAny (model prog w) A (pyNext (.ref z)) Q E s := by
  have ty : s.TypeIs (.ref z) "zip" := ⟨_, hz, rfl⟩
  unfold pyNext
  refine wpAny_bind (wpAny_attempt (wpAny_callSpecial?_slot (name := Str.ofString "__next__") ty F.slot_zip_next (wpAny_call_entry F.slot_zip_next ty F.entry_zip_next ?_ (F.args_zip_next_1 _))))
  exact tz_body D hz hT t hx hy fun h' a b c d => wpAny_pure (hQ h' a b c d)
theorem tz_stop {f : Bool} {oT : Obj} {Q : Fin → Shared → Prop} (hh : A.handled = none) (D : ZipApart z TI TO i1 i2 l1 l2) (hz : IsZipHeld s.heap z TI TO T f) (hT : s.heap.get? T = some oT) (t : TZ s.heap TI i1 i2 l1 l2 xs ys k)
    (hx : xs[k]? = none ∨ ys[k]? = none) (hE : ∀ h' e, (∀ c o, c ≠ z → c ≠ i1 → c ≠ i2 → s.heap.get? c = some o → h'.get? c = some o) → (∃ o, h'.get? e = some o ∧ o.cls = .type "StopIteration") → E (.ref e) { s with heap := h' }) :
    wpAny (model prog w) A (Builtin.«zip.__next__» ⟨[.ref z], []⟩) Q E s := by
  show wpAny _ _ (field (.ref z) 2 >>= _) _ _ _; refine wpAny_bind (wpAny_field hz rfl (x := .bool false) rfl ?_)
  show wpAny _ _ (field (.ref z) 3 >>= _) _ _ _; refine wpAny_bind (wpAny_field hz rfl (x := .ref TI) rfl (wpAny_bind (wpAny_seqItems t.pr rfl ?_)))
  show wpAny _ _ (Builtin.SmallTypes.ownedTupleIsFree (.ref z) >>= _) _ _ _; refine wpAny_bind (wpAny_tupleHeld_zip hz hT fun a za sa => ?_)
  simp only [Bool.false_eq_true, if_false]; refine wpAny_bind ?_
  rw [← Array.forIn_toList]; simp only [List.forIn_cons, List.forIn_nil]
  refine wpAny_bind (wpAny_bind (wpAny_holding ?_)); show wpAny _ _ (Builtin.SmallTypes.nextOf (.ref i1) >>= _) _ _ _
  cases e1 : xs[k]? with
  | none => exact wpAny_bind (wpAny_nextOf_tuple_end (s := { s with heap := a }) hh (t.one.extBut sa.extBut D.i1z) (t.left.at fun o e => sa.extBut l1 o D.l1z e) e1 fun b e sb he => hE b e (fun q o n1 n2 _ x => sb _ _ n2 (sa.extBut _ _ n1 x)) he)
  | some x =>
    have e2 : ys[k]? = none := hx.resolve_left fun z => by rw [e1] at z; cases z
    refine wpAny_bind (wpAny_nextOf_tuple_item (s := { s with heap := a }) (t.one.extBut sa.extBut D.i1z) (t.left.at fun o e => sa.extBut l1 o D.l1z e) e1 fun b ib sb => wpAny_pure (wpAny_pure ?_))
    refine wpAny_bind (wpAny_bind (wpAny_holding ?_)); show wpAny _ _ (Builtin.SmallTypes.nextOf (.ref i2) >>= _) _ _ _
    exact wpAny_bind (wpAny_nextOf_tuple_end (s := { s with heap := b }) hh ((t.two.extBut sa.extBut D.i2z).extBut sb.extBut D.i12.symm) (t.right.at fun o e => sb.extBut l2 o D.l2i1 (sa.extBut l2 o D.l2z e)) e2 fun c e sc he => hE c e (fun q o n1 n2 n3 x => sc _ _ n3 (sb.extBut _ _ n2 (sa.extBut _ _ n1 x))) he)
/-- no pair is left -/
theorem tz_end {f : Bool} {oT : Obj} {Q : Option Value → Shared → Prop} (hh : A.handled = none) (D : ZipApart z TI TO i1 i2 l1 l2) (hz : IsZipHeld s.heap z TI TO T f) (hT : s.heap.get? T = some oT) (t : TZ s.heap TI i1 i2 l1 l2 xs ys k)
    (hx : xs[k]? = none ∨ ys[k]? = none) (hQ : ∀ h', (∀ c o, c ≠ z → c ≠ i1 → c ≠ i2 → s.heap.get? c = some o → h'.get? c = some o) → Q none { s with heap := h' }) :
    wpAny (model prog w) A (pyNext (.ref z)) Q E s := by
  have ty : s.TypeIs (.ref z) "zip" := ⟨_, hz, rfl⟩
  unfold pyNext
  refine wpAny_bind (wpAny_attempt (wpAny_callSpecial?_slot (name := Str.ofString "__next__") ty F.slot_zip_next (wpAny_call_entry F.slot_zip_next ty F.entry_zip_next ?_ (F.args_zip_next_1 _))))
  refine tz_stop hh D hz hT t hx fun h' e kp ⟨o, ho, hc⟩ => wpAny_bind (wpAny_isInstance (T := "StopIteration") (b := true) ⟨o, ho, hc⟩ isSubtype_stop (wpAny_pure (hQ _ kp)))
end
section
variable {prog : Program} {w : World}
/-- where a zip of two tuples stands while a dict at d is filled from it -/
def TZs (z TI TO i1 i2 l1 l2 d : Addr) (xs ys : Array Value) (k : Nat) (h : Heap) : Prop :=
  TZ h TI i1 i2 l1 l2 xs ys k ∧ ((IsZip h z TI TO .none ∧ ∃ a b, IsPair h TO a b) ∨ ∃ T f oT, IsZipHeld h z TI TO T f ∧ h.get? T = some oT ∧ (T ≠ z ∧ T ≠ i1 ∧ T ≠ i2) ∧ T ≠ d)
theorem tz_src {A : Around} {z TI TO i1 i2 l1 l2 d : Addr} {xs ys : Array Value} (hA : A.handled = none) (D : ZipApart z TI TO i1 i2 l1 l2) (hd : ∀ b ∈ [z, TI, TO, i1, i2, l1, l2], d ≠ b) :
    PairSrc prog w A z d [z, TO, i1, i2] (min xs.size ys.size) (fun i k v => xs[i]? = some k ∧ ys[i]? = some v) (TZs z TI TO i1 i2 l1 l2 d xs ys) where
  off := fun m => by
    rcases List.mem_cons.mp m with e | m
    · exact hd z (by simp) e
    · rcases List.mem_cons.mp m with e | m
      · exact hd TO (by simp) e
      · rcases List.mem_cons.mp m with e | m
        · exact hd i1 (by simp) e
        · exact hd i2 (by simp) (List.mem_singleton.mp m)
  frame := fun i h h' st kp => by
    obtain ⟨t, q⟩ := st
    have kp' : ∀ b ∈ [z, TI, TO, i1, i2, l1, l2], ∀ o, h.get? b = some o → h'.get? b = some o := fun b hb o e => kp b o (fun x => hd b hb x.symm) e
    refine ⟨t.held fun b hb o e => kp' b (by simp at hb ⊢; rcases hb with rfl | rfl | rfl | rfl | rfl <;> simp) o e, ?_⟩
    rcases q with ⟨q, a, b, r⟩ | ⟨T, f, oT, q, r, n, m⟩
    · exact .inl ⟨kp' z (by simp) _ q, a, b, kp' TO (by simp) _ r⟩
    · exact .inr ⟨T, f, oT, kp' z (by simp) _ q, kp T _ m r, n, m⟩
  item := fun i s Q E hi st hds hQ => by
    obtain ⟨t, q⟩ := st
    have ex := Array.getElem?_eq_getElem (show i < xs.size by omega)
    have ey := Array.getElem?_eq_getElem (show i < ys.size by omega)
    have far : ∀ {c o}, s.heap.get? c = some o → s.heap.objs.size ≠ c := fun e => Nat.ne_of_gt (Heap.lt_size e)
    have f1 : s.heap.objs.size ≠ i1 := let ⟨_, e, _⟩ := t.one; far e
    have f2 : s.heap.objs.size ≠ i2 := let ⟨_, e, _⟩ := t.two; far e
    rcases q with ⟨q, a, b, r⟩ | ⟨T, f, oT, q, r, n, m⟩
    · refine RZ.pyNext_zipT_item D q t.pr r t.one t.two t.left t.right ex ey fun h' a1 a2 a3 a4 a5 _ kp => hQ s.heap.objs.size _ _ h' s.toks ⟨ex, ey⟩ (.inl ⟨_, a5, rfl, _, rfl⟩) ⟨⟨kp _ _ D.TIz D.TITO D.TIi1 D.TIi2 t.pr, a3, a4, t.left.at fun o e => kp _ o D.l1z D.l1TO D.l1i1 D.l1i2 e, t.right.at fun o e => kp _ o D.l2z D.l2TO D.l2i1 D.l2i2 e⟩, .inr ⟨s.heap.objs.size, false, _, a1, a5, ⟨far q, f1, f2⟩, Nat.ne_of_gt hds⟩⟩ fun c o hc e => ?_
      exact kp c o (fun x => hc (by simp [x])) (fun x => hc (by simp [x])) (fun x => hc (by simp [x])) (fun x => hc (by simp [x])) e
    · refine tz_item D q r t ex ey fun h' a1 a2 a3 kp => hQ s.heap.objs.size _ _ h' s.toks ⟨ex, ey⟩ (.inl ⟨_, a3, rfl, _, rfl⟩) ⟨a2, .inr ⟨T, true, oT, a1, kp T _ n.1 n.2.1 n.2.2 r, n, m⟩⟩ fun c o hc e => ?_
      exact kp c o (fun x => hc (by simp [x])) (fun x => hc (by simp [x])) (fun x => hc (by simp [x])) e
  done := fun s Q E st hQ => by
    obtain ⟨t, q⟩ := st
    have no : xs[min xs.size ys.size]? = none ∨ ys[min xs.size ys.size]? = none := by
      by_cases c : xs.size ≤ ys.size
      · exact .inl (Array.getElem?_eq_none (by omega))
      · exact .inr (Array.getElem?_eq_none (by omega))
    rcases q with ⟨q, a, b, r⟩ | ⟨T, f, oT, q, r, n, m⟩
    · exact RZ.pyNext_zipT_end hA D q t.pr r t.one t.two t.left t.right no fun h' kp => hQ h' s.toks fun c o hc e => kp c o (fun x => hc (by simp [x])) (fun x => hc (by simp [x])) (fun x => hc (by simp [x])) (fun x => hc (by simp [x])) e
    · exact tz_end hA D q r t no fun h' kp => hQ h' s.toks fun c o hc e => kp c o (fun x => hc (by simp [x])) (fun x => hc (by simp [x])) (fun x => hc (by simp [x])) e
theorem tz_arg {z TI TO i1 i2 l1 l2 : Addr} (D : ZipApart z TI TO i1 i2 l1 l2) (xs ys : Array Value) : PairArg prog w "zip" z [z, TI, TO, i1, i2, l1, l2] [z, TO, i1, i2] (min xs.size ys.size) (fun i k v => xs[i]? = some k ∧ ys[i]? = some v)
    (fun h => TZ h TI i1 i2 l1 l2 xs ys 0 ∧ IsZip h z TI TO .none ∧ ∃ a b, IsPair h TO a b) where
  type := fun s ok => ⟨_, ok.2.1, rfl⟩
  notDict := by decide
  keep := fun h h' ⟨t, q, a, b, r⟩ kp => ⟨t.held fun b _ o e => kp b o e, kp _ _ q, a, b, kp _ _ r⟩
  there := fun h ⟨t, q, a, b, r⟩ c hc => by
    obtain ⟨pr, ⟨o1, e1, _⟩, ⟨o2, e2, _⟩, ⟨o3, e3, _⟩, ⟨o4, e4, _⟩⟩ := t
    simp only [List.mem_cons, List.not_mem_nil, or_false] at hc
    rcases hc with rfl | rfl | rfl | rfl | rfl | rfl | rfl
    all_goals exact ⟨_, by assumption⟩
  sub := fun b hb => by simp at hb ⊢; rcases hb with rfl | rfl | rfl | rfl <;> simp
  noKeys := fun A s Q E hA ok h => getAttrOr_miss_zip ok.2.1 rfl rfl rfl zip_no_keys (by decide +kernel) hA h
  iter := fun A s d Q E hA ⟨t, q, r⟩ hd hdf h => wpAny_pyIter_zip q (h z [z, TO, i1, i2] (TZs z TI TO i1 i2 l1 l2 d xs ys) s.heap s.toks (tz_src hA D fun b hb e => hdf (e ▸ hb)) ⟨t, .inl ⟨q, r⟩⟩ (fun _ _ e => e) fun b hb => .inl hb)
end
section
variable {X : Cx}
theorem tz_keys {H : Hp} : ∀ {bs : List Addr} {kvs : List (List Key × V)} {us : List Value}, Paired (fun b kv => H b = some (.tup (kv.1.map kV))) bs kvs → Vals (kvs.map (·.2)) us →
    ∃ qs : List (List Key × Addr × Value), KT H kvs qs ∧ bs = qs.map (·.2.1) ∧ us = qs.map (·.2.2)
  | _, _, us, .nil, r => by cases r; exact ⟨[], .nil, rfl, rfl⟩
  | _, _, us, .cons (a := b) (b := kv) h t, r => by
    rw [List.map_cons] at r
    cases r with
    | cons r1 r2 =>
      obtain ⟨qs, q, e1, e2⟩ := tz_keys t r2
      exact ⟨(kv.1, b, _) :: qs, .cons ⟨rfl, h, r1⟩ q, by rw [e1]; rfl, by rw [e2]; rfl⟩
theorem pe_dictZ {a b : Expr} {ta : TA} {p p2 pos pos2 : Pos} (hc : X.calm = true) (hu : X.A.units + 100 < cLine) (hg : Gl X "dict") (hm : X.mg "dict" = none) (hg2 : Gl X "zip") (hm2 : X.mg "zip" = none) (ha : PA X [a, b] ta)
    (na : starEach [.Call (.Name "zip" p2) [a, b] [] pos2] X.env = (false, eval (.Call (.Name "zip" p2) [a, b] [] pos2) X.env) :: starEach [] X.env := by rfl)
    (hs : starEach [a, b] X.env = (false, eval a X.env) :: starEach [b] X.env := by rfl) (hpl : (backTo pos2 (starEach [b] X.env)).any (·.1) = false := by rfl) :
    PE X (.Call (.Name "dict" p) [.Call (.Name "zip" p2) [a, b] [] pos2] [] pos) (fun σ H Q => ta σ H fun vs H1 => ∃ (x y : Addr) (bs : List Addr) (kvs : List (List Key × V)), vs = [.ref x, .ref y] ∧ SqT X.K H1 x (bs.map V.ref) ∧ SqT X.K H1 y (kvs.map (·.2)) ∧ Paired (fun b kv => H1 b = some (.tup (kv.1.map kV))) bs kvs ∧ ∀ q, H1 q = none → Q (.ref q) (upd H1 q (.dT (mergeT [] kvs)))) := by
  refine ⟨fun pins s σ H Q I h => ?_⟩
  have hz : wpAny (model X.prog X.w) X.A (eval (.Call (.Name "zip" p2) [a, b] [] pos2) X.env) (fun v s' => ∃ (s0 : Shared) (H1 : Hp) (x y : Addr) (qs : List (List Key × Addr × Value)) (kvs : List (List Key × V)), Inv X pins σ H1 s0 ∧ KT H1 kvs qs ∧ qs.length ≤ sizeLine ∧ v = .ref (s0.heap.objs.size + 4) ∧ x < s0.heap.objs.size ∧ y < s0.heap.objs.size ∧
      TZ s'.heap (s0.heap.objs.size + 2) s0.heap.objs.size (s0.heap.objs.size + 1) x y (qs.map fun q => Value.ref q.2.1).toArray (qs.map (·.2.2)).toArray 0 ∧ IsZip s'.heap (s0.heap.objs.size + 4) (s0.heap.objs.size + 2) (s0.heap.objs.size + 3) .none ∧ IsPair s'.heap (s0.heap.objs.size + 3) .none .none ∧ s'.heap.objs.size = s0.heap.objs.size + 5 ∧
      (∀ c o, s0.heap.get? c = some o → s'.heap.get? c = some o) ∧ (∃ h' tk, s' = { s0 with heap := h', toks := tk }) ∧ ∀ q, H1 q = none → Q (.ref q) (upd H1 q (.dT (mergeT [] kvs)))) X.xe s := by
    refine Call_ (ld_blt I hg2 hm2 boot_zip (PyProof.Rows.callWith_type1 (thn (ha.run pos2 pins s σ H _ I h) fun us s1 ⟨vs, H1, I1, r1, q1⟩ => ?_) hs hpl))
    obtain ⟨x, y, bs, kvs, e, t1, t2, pk, q⟩ := q1
    subst e
    obtain ⟨u1, u2, e, w1, w2⟩ := vals2 r1
    subst e
    cases (show u1 = Value.ref x from w1)
    cases (show u2 = Value.ref y from w2)
    obtain ⟨i1, v1, p1, z1⟩ := I1.tuple t1
    obtain ⟨i2, v2, p2, z2⟩ := I1.tuple t2
    have ei := refs_at v1
    obtain ⟨qs, kt, e1, e2⟩ := tz_keys pk v2
    have lx : x < s1.heap.objs.size := by obtain ⟨_, e, _⟩ := p1; exact Heap.lt_size e
    have ly : y < s1.heap.objs.size := by obtain ⟨_, e, _⟩ := p2; exact Heap.lt_size e
    subst ei e1 e2
    rw [List.map_map] at p1
    have p1 : s1.heap.IsTuple x _ := p1
    have p2 : s1.heap.IsTuple y _ := p2
    refine RZ.call_zipT p1 p2 fun h' a1 a2 a3 a4 a5 a6 kp => ?_
    exact ⟨s1, H1, x, y, qs, kvs, I1, kt, by rw [List.length_map, List.length_map] at z1; exact z1, rfl, lx, ly, ⟨a2, a4, a5, p1.at fun o e => kp _ o e, p2.at fun o e => kp _ o e⟩, a1, a3, a6, kp, ⟨h', s1.toks, rfl⟩, q⟩
  refine Call_ (ld_blt I hg hm boot_dict (PyProof.Rows.callWith_type1 (args_cons (thn hz fun v s1 hv => args_nil ?_) na) na))
  obtain ⟨s0, H1, x, y, qs, kvs, I0, kt, hl, rfl, lx, ly, tz, iz, ip, hsz, kp, ⟨h1, tk1, rfl⟩, q⟩ := hv
  have D : ZipApart (s0.heap.objs.size + 4) (s0.heap.objs.size + 2) (s0.heap.objs.size + 3) s0.heap.objs.size (s0.heap.objs.size + 1) x y := by
    have lx : (x : Nat) < s0.heap.objs.size := lx
    have ly : (y : Nat) < s0.heap.objs.size := ly
    constructor <;> first | exact Nat.ne_of_lt (Nat.lt_of_lt_of_le lx (by omega)) | exact Nat.ne_of_lt (Nat.lt_of_lt_of_le ly (by omega)) | (show (_ : Nat) ≠ _; omega)
  have old : ∀ {b o}, s0.heap.get? b = some o → b < s0.heap.objs.size := fun e => Heap.lt_size e
  have out : ∀ {b o}, s0.heap.get? b = some o → b ∉ [s0.heap.objs.size + 4, s0.heap.objs.size + 3, s0.heap.objs.size, s0.heap.objs.size + 1] := fun e m => by
    have l := old e
    simp only [List.mem_cons, List.not_mem_nil, or_false] at m
    rcases m with rfl | rfl | rfl | rfl
    · exact Nat.lt_irrefl _ (Nat.lt_of_le_of_lt (Nat.le_add_right _ _) l)
    · exact Nat.lt_irrefl _ (Nat.lt_of_le_of_lt (Nat.le_add_right _ _) l)
    · exact Nat.lt_irrefl _ l
    · exact Nat.lt_irrefl _ (Nat.lt_of_le_of_lt (Nat.le_add_right _ _) l)
  have hks : ∀ x ∈ qs, (tupleKind (mixKind X.prog X.w)).is s0.heap x.1 x.2.1 := by
    have all : ∀ {l : List (List Key × V)} {m : List (List Key × Addr × Value)}, KT H1 l m → ∀ x ∈ m, (tupleKind (mixKind X.prog X.w)).is s0.heap x.1 x.2.1 := by
      intro l m q
      induction q with
      | nil => intro x hx; exact nomatch hx
      | @cons p q ps qs hq t ih =>
        intro x hx
        rcases List.mem_cons.mp hx with e | hx
        · subst e; exact key_of I0.hok (by rw [← hq.1]; exact hq.2.1)
        · exact ih x hx
    exact all kt
  have hsz : h1.objs.size = s0.heap.objs.size + 5 := hsz
  refine PySem.call_dict_pairsH (knd := tupleKind (mixKind X.prog X.w)) (ps := qs) (tz_arg D (qs.map fun q => Value.ref q.2.1).toArray (qs.map (·.2.2)).toArray) (I0.ok.hd hc) ?_ ⟨tz, iz, _, _, ip⟩ ⟨by simp, fun i key v e => ?_⟩ (fun h' hk x hx => tupleKind_stays.stays (fun b o _ _ e _ => hk b o (Nat.ne_of_lt (Nat.lt_of_lt_of_le (old e) (by show s0.heap.objs.size ≤ h1.objs.size; rw [hsz]; exact Nat.le_add_right _ _))) (out e) (kp b o e)) (hks x hx)) (by simp; omega) fun h' tk hd' k => ?_
  · have u2 : X.A.in1.in1.units = X.A.units + 2 := rfl
    show X.A.in1.in1.units < cLine
    omega
  · obtain ⟨e1, e2⟩ := e
    simp only [List.getElem?_toArray, List.getElem?_map] at e1 e2
    cases eq : qs[i]? with
    | none => rw [eq] at e1; cases e1
    | some q0 => rw [eq] at e1 e2; cases e1; cases e2; exact ⟨q0.1, q0.2.1, rfl, rfl⟩
  · have hfr : H1 h1.objs.size = none := I0.hok.fresh (by omega)
    have hl2 : (mergeT [] kvs).length ≤ sizeLine := by
      refine Nat.le_trans (mergeT_len kvs []) ?_
      rw [List.length_nil, Nat.zero_add, kt.length]
      exact hl
    have hm2 : (h1.objs.size == sysModules) = false := beq_eq_false_iff_ne.mpr (Nat.ne_of_gt (Nat.lt_of_lt_of_le I0.big (by omega)))
    obtain ⟨o', es, ep', hq', h2, h3, h4, _, h5⟩ := hd'
    exact ⟨.ref h1.objs.size, upd H1 h1.objs.size (.dT (mergeT [] kvs)), I0.laid (t' := tk) (fun b o e => k b o (out e) (kp b o e)) (by omega) (show ObjOk X.prog X.w _ _ _ (.dT (mergeT [] kvs)) from ⟨hl2, hm2, _, (KT.merge kt .nil).keeps (fun b ys eb => by
      rw [upd_ne (fun z => by rw [z, hfr] at eb; cases eb)]; exact eb), o', es, ep', hq', h2, h3, h4, h5⟩), rfl, q _ hfr⟩
end
def zipT : List D → List D → Option (List (List Key × D))
  | [], [] => some []
  | k :: ks, v :: vs => match keyT k, zipT ks vs with
    | some k, some r => some ((k, v) :: r)
    | _, _ => none
  | _, _ => none
theorem zipT_ok {K : PySem.W.Frag} {ρ : Nu} {H : Hp} : ∀ {ks vs : List D} {us ws : List V} {kvs : List (List Key × D)}, Dens K ρ H ks us → Dens K ρ H vs ws → zipT ks vs = some kvs → ∃ (bs : List Addr) (es : List (List Key × V)), us = bs.map V.ref ∧ ws = es.map (·.2) ∧ Paired (fun b kv => H b = some (.tup (kv.1.map kV))) bs es ∧ Ents K ρ H kvs es
  | [], [], _, _, kvs, h, h', e => by cases h; cases h'; cases e; exact ⟨[], [], rfl, rfl, .nil, .nil⟩
  | k :: ks, v :: vs, _, _, kvs, h, h', e => by
    cases h with
    | cons r t =>
      cases h' with
      | cons r' t' =>
        unfold zipT at e
        split at e
        · rename_i kk rr hk hr
          cases e
          obtain ⟨bs, es, rfl, rfl, pp, q⟩ := zipT_ok t t' hr
          obtain ⟨b, rfl, eb⟩ := keyT_ok r hk
          exact ⟨b :: bs, (kk, _) :: es, rfl, rfl, .cons eb pp, q.cons r'⟩
        · cases e
  | [], _ :: _, _, _, _, _, _, e => by cases e
  | _ :: _, [], _, _, _, _, _, e => by cases e
/-- dict(zip(a, b)) -/
def fDictZ (fa : SFs) : SF := fun σ M => (fa σ M).bind fun ds M1 => match ds with
  | [.tup ks, .tup vs] => match zipT ks vs with
    | some kvs => .ok (.ref M1.length) (M1 ++ [.dtt (mergeD [] kvs)])
    | none => .bad
  | _ => .bad
section
variable {X : Cx} {E : XK} {N : List Str} {sc : Scope} {kn : List (Option NameKind)} {own : List Nat} {k : Nat}
theorem cdictZ {a b : Expr} {fa : SFs} {p p2 pos pos2 : Pos} (C : Ctx X E N sc kn own k) (hm : X.mg "dict" = none) (hm2 : X.mg "zip" = none) (ha : JA X E [a, b] fa) (hg : sc.names.lookup (Str.ofString "dict") = some .globalImplicit := by decide +kernel) (hg2 : sc.names.lookup (Str.ofString "zip") = some .globalImplicit := by decide +kernel)
    (na : starEach [.Call (.Name "zip" p2) [a, b] [] pos2] X.env = (false, eval (.Call (.Name "zip" p2) [a, b] [] pos2) X.env) :: starEach [] X.env := by rfl)
    (hs : starEach [a, b] X.env = (false, eval a X.env) :: starEach [b] X.env := by rfl) (hpl : (backTo pos2 (starEach [b] X.env)).any (·.1) = false := by rfl) :
    JE X E (.Call (.Name "dict" p) [.Call (.Name "zip" p2) [a, b] [] pos2] [] pos) (fDictZ fa) := by
  refine PE.weak (pe_dictZ C.calm C.hu100 (C.gl hg) hm (C.gl hg2) hm2 ha na hs hpl) fun σ H Q ⟨ρ, M, σd, R, en, hp⟩ => ⟨ρ, M, σd, R, en, hp.bind.imp fun ds M1 ρ1 H1 x1 R1 hp1 vs rvs => ?_⟩
  split at hp1
  · split at hp1
    · rename_i kvs ek
      obtain ⟨w1, w2, rfl, q1, q2⟩ := dens2 rvs
      cases q1 with
      | tup s1 t1 =>
        cases q2 with
        | tup s2 t2 =>
          obtain ⟨bs, es, rfl, rfl, pp, q⟩ := zipT_ok t1 t2 ek
          refine ⟨_, _, bs, es, rfl, s1.sq, s2.sq, pp, fun p np => ?_⟩
          have xn : Ext ρ1 H1 (ρ1.push p) (upd H1 p (.dT (mergeT [] es))) := Ext.new np
          have e2 := Ents.mergeT (q.ext R1 xn) (.nil : Ents X.K (ρ1.push p) (upd H1 p (.dT (mergeT [] es))) [] [])
          exact hp1 (ρ1.push p) _ xn (R1.new np ⟨_, upd_same, e2.1, e2.2⟩) (.ref p) (.ref (by rw [← R1.len]; simp [Nu.push]))
    · exact hp1.elim
  · exact hp1.elim
end
/-- a dict comprehension assigned to a captured name -/
theorem sw_cellD {kx vx : Expr} {gens : List Comprehension} {scope : Scope} {p py : Pos} {y : Str} {l : Nat} {env : Env} (hy : env.scope.names.lookup y = some .cell) :
    swapsWith (.DictComp kx vx gens scope p) (some (.Name y py)) l env = pure false := by
  have h : (env.kindOf y == some .local) = false := by unfold Env.kindOf; rw [hy]; rfl
  show pure (env.blockKind == .function && env.kindOf y == some .local && py.line == p.line && !(scope.names.any fun (n, k) => n == y && (k == .local || k == .cell))) = _
  rw [h, Bool.and_false]; rfl
section
variable {X : Cx} {E : XK} {N : List Str} {sc : Scope} {ks : List (Option NameKind)} {own : List Nat} {k : Nat}
theorem csetFD (C : Ctx X E N sc ks own k) (i : Nat) {x : Str} {kx vx : Expr} {gens : List Comprehension} {scope : Scope} {p : Pos} {f : SF} {pos pos' : Pos} (he : JE X E (.DictComp kx vx gens scope p) f) (h : N[i]? = some x := by rfl) (hk : ks[i]? = some (some .cell) := by rfl) (ho : i ∈ own := by decide) :
    JS X E (.Assign [.Name x pos'] (.DictComp kx vx gens scope p) pos) (sAsg f (gSet i)) :=
  cset C i he h ho (sw_cellD (by rw [C.hsc]; have := C.kind h; rw [hk] at this; exact (Option.some.inj this).symm))
end
end KP

/-! a dict is no text -/
namespace KP
open PySem PySem.Spec PyProof.Rows L2
section
theorem strNe_obj {d : Addr} {ob : Obj} (b : Str) (u : Tok) : Meets (Builtin.«str.__ne__» ⟨[.str b u, .ref d], []⟩) (fun _ R s => s.heap.get? d = some ob ∧ (ob.cls = .type "dict" ∧ ∃ es ep, ob.data = .dict es ep) ∧ R (.ok (.ret .notImplemented)) s) :=
  .of_wp fun prog w A R s h => by
    obtain ⟨hp, g, dr, tk, os⟩ := s
    obtain ⟨cls, dct, dat, sl⟩ := ob
    obtain ⟨hl, ⟨hc, es, ep, hd⟩, h⟩ := h
    simp only at hc hd
    subst hc hd
    wp_walk using SeqAt.AutoSeq1.wpAny_loadPart' hl, wpAny_load hl
    exact ⟨_, rfl, h⟩
variable {prog : Program} {w : World} {A : Around} {E : Value → Shared → Prop} {s : Shared}
theorem dict_ne_str {d : Addr} {ob : Obj} {b : Str} {u : Tok} {Q : Value → Shared → Prop} (ho : s.heap.get? d = some ob) (hc : ob.cls = .type "dict" ∧ ∃ es ep, ob.data = .dict es ep) (hu : A.units < cLine) (h : Q (.bool true) s) :
    wpAny (model prog w) A (compareOp .NotEq (.ref d) (.str b u)) Q E s := by
  have hT : s.TypeIs (.ref d) "dict" := ⟨_, ho, hc.1⟩
  show wpAny _ _ (richCompare .NotEq (.ref d) (.str b u)) _ _ _
  refine SeqAt.rc_ne_decline_or (k := false) hT (typeIs_str s b u) (by decide) F.sub_str_dict F.slot_dict_ne F.slot_str_ne_refl (fun Q' hq => ?_)
    (fun _ hq => call_meets F.slot_str_ne_refl (typeIs_str s b u) F.entry_str_ne (F.args_str_ne_2 _ _) (strNe_obj b u) ⟨ho, hc, hq⟩) (fun _ hq => wpAny_of_eq (rfl : isSame (.ref d) (.str b u) = pure false) hq) (.inr hu) h
  refine wpAny_call_entry F.slot_dict_ne hT F.entry_dict_ne ?_ (F.args_dict_ne_2 _ _)
  show wpAny _ _ (Builtin.Dict.dictSlotArgs "__ne__" ⟨[.ref d, .str b u], []⟩ >>= _) _ _ s; refine wpAny_bind ?_
  unfold Builtin.Dict.dictSlotArgs; refine wpAny_bind (wpAny_notOrdered_dict hT ?_)
  show wpAny _ _ (pure (Value.ref d, Value.str b u)) _ _ s; refine wpAny_pure (wpAny_bind (wpAny_isInstance (T := "str") (typeIs_str s b u) F.sub_str_dict ?_))
  simp only [Bool.not_false, if_true]
  exact wpAny_bind (wpAny_rule (wpAny_bind (wpAny_pure (wpAny_pure ⟨_, rfl, hq⟩))))
end
def dNeX : D → D → Mem → Out D := fun x y M => match x, y with
  | .ref n, .str z => match M[n]? with
    | some (.dct _) => .ok (.bl true) M
    | _ => dNeS (.ref n) (.str z) M
  | x, y => dNeS x y M
section
variable {X : Cx} {E : XK}
theorem od_neX (hu : X.A.units + 64 < cLine) : OpR X (compareOp .NotEq) (rD X.K X.mg E dNeX) := by
  intro pins s σ H x y v u Q I rx ry h
  obtain ⟨ρ, M, dx, dy, R, r1, r2, hp⟩ := id h
  unfold dNeX at hp
  split at hp
  · rename_i n z
    split at hp
    · rename_i kvs hn
      cases r1 with
      | ref hr =>
        cases r2
        obtain ⟨es, h1, _⟩ := R.obj _ _ _ hr hn
        obtain ⟨_, _, vs, _, dd⟩ := dk_of I.hok h1
        obtain ⟨ob, es', ep, ho, h2, h3, _⟩ := dd
        cases rx
        obtain ⟨t, rfl⟩ := ry
        exact dict_ne_str ho ⟨h2.1, _, _, h3⟩ (by omega) ⟨.bl true, H, I, rfl, hp.here R _ (.bl true)⟩
    · exact od_neS (E := E) hu pins s σ H x y v u Q I rx ry ⟨ρ, M, _, _, R, r1, r2, hp⟩
  · exact od_neS (E := E) hu pins s σ H x y v u Q I rx ry ⟨ρ, M, _, _, R, r1, r2, hp⟩
end
end KP

/-! mathematics of the functions: equality of data, evaluation, loops -/
namespace KP
open PySem PySem.Spec PyProof.Rows L2
/-! ### equality of data -/
/-- data without numbered parts, bools and types, of depth less than n -/
def pl : Nat → D → Bool
  | 0, _ => false
  | n + 1, d => match d with
    | .non => true
    | .int _ => true
    | .str z => PyData.strOk ⟨z.toArray⟩
    | .tup xs => xs.all (pl n)
    | .lst xs => xs.all (pl n)
    | _ => false
def toP (n : Nat) (d : D) : PyData := (pdN [] n d).getD .none
theorem mapO_ok {α β : Type} {f : α → Option β} {g : α → β} : ∀ {xs : List α}, (∀ x ∈ xs, f x = some (g x)) → mapO f xs = some (xs.map g)
  | [], _ => rfl
  | x :: xs, h => by
    unfold mapO
    rw [h x (List.mem_cons_self ..), mapO_ok fun y hy => h y (List.mem_cons_of_mem _ hy)]
    rfl
mutual
def toQ : Nat → D → PyData
  | 0, _ => .none
  | n + 1, d => match d with
    | .int i => .int i
    | .str x => .str ⟨x.toArray⟩
    | .tup xs => .tuple (toQs n xs)
    | .lst xs => .list (toQs n xs)
    | _ => .none
def toQs : Nat → List D → List PyData
  | _, [] => []
  | n, x :: xs => toQ n x :: toQs n xs
end
theorem toQs_map (n : Nat) : ∀ xs, toQs n xs = xs.map (toQ n)
  | [] => by unfold toQs; rfl
  | x :: xs => by unfold toQs; rw [toQs_map n xs]; rfl
theorem pdN_pl (M : Mem) : ∀ (n : Nat) (d : D), pl n d = true → pdN M n d = some (toQ n d)
  | 0, d, h => by cases h
  | n + 1, d, h => by
    unfold pl at h
    unfold pdN toQ
    cases d with
    | non => rfl
    | int i => rfl
    | str z => rfl
    | tup xs =>
      have h : xs.all (pl n) = true := h
      rw [List.all_eq_true] at h
      show (match mapO (pdN M n) xs with
        | some ys => some (PyData.tuple ys)
        | none => none) = some (.tuple (toQs n xs))
      rw [mapO_ok (g := toQ n) fun x hx => pdN_pl M n x (h x hx), toQs_map]
    | lst xs =>
      have h : xs.all (pl n) = true := h
      rw [List.all_eq_true] at h
      show (match mapO (pdN M n) xs with
        | some ys => some (PyData.list ys)
        | none => none) = some (.list (toQs n xs))
      rw [mapO_ok (g := toQ n) fun x hx => pdN_pl M n x (h x hx), toQs_map]
    | bl b => cases h
    | fl xs => cases h
    | ref k => cases h
    | ty t => cases h
theorem can_pl : ∀ (n : Nat) (d : D), pl n d = true → (toQ n d).canLay0 = true ∧ (toQ n d).depth ≤ n
  | 0, d, h => by cases h
  | n + 1, d, h => by
    have key : ∀ xs : List D, xs.all (pl n) = true → PyData.canLayAll0 (toQs n xs) = true ∧ PyData.depthAll (toQs n xs) ≤ n := by
      intro xs
      induction xs with
      | nil => intro _; unfold toQs; exact ⟨by simp only [PyData.canLayAll0], by simp only [PyData.depthAll]; omega⟩
      | cons x xs ih =>
        intro h
        rw [List.all_cons, Bool.and_eq_true] at h
        obtain ⟨h1, h2⟩ := ih h.2
        obtain ⟨h3, h4⟩ := can_pl n x h.1
        unfold toQs
        simp only [PyData.canLayAll0, PyData.depthAll, h1, h3, Bool.and_self, true_and]
        omega
    unfold pl at h
    unfold toQ
    cases d with
    | non => exact ⟨by simp only [PyData.canLay0], by simp only [PyData.depth]; omega⟩
    | int i => exact ⟨by simp only [PyData.canLay0], by simp only [PyData.depth]; omega⟩
    | str z => exact ⟨by simp only [PyData.canLay0]; exact h, by simp only [PyData.depth]; omega⟩
    | tup xs =>
      obtain ⟨h1, h2⟩ := key xs h
      exact ⟨by simp only [PyData.canLay0]; exact h1, by simp only [PyData.depth]; omega⟩
    | lst xs =>
      obtain ⟨h1, h2⟩ := key xs h
      exact ⟨by simp only [PyData.canLay0]; exact h1, by simp only [PyData.depth]; omega⟩
    | bl b => cases h
    | fl xs => cases h
    | ref k => cases h
    | ty t => cases h
theorem eqv_pl : ∀ (n : Nat) (d e : D), pl n d = true → pl n e = true → (PyData.eqv (toQ n d) (toQ n e) = true ↔ d = e)
  | 0, d, e, h, _ => by cases h
  | n + 1, d, e, h, h' => by
    have key : ∀ xs ys : List D, xs.all (pl n) = true → ys.all (pl n) = true → (PyData.eqvAll (toQs n xs) (toQs n ys) = true ↔ xs = ys) := by
      intro xs
      induction xs with
      | nil =>
        intro ys _ _
        cases ys with
        | nil => unfold toQs; simp only [PyData.eqvAll]
        | cons y ys => unfold toQs; simp only [PyData.eqvAll, Bool.false_eq_true, List.nil_eq, reduceCtorEq]
      | cons x xs ih =>
        intro ys hx hy
        cases ys with
        | nil => unfold toQs; simp only [PyData.eqvAll, Bool.false_eq_true, reduceCtorEq]
        | cons y ys =>
          rw [List.all_cons, Bool.and_eq_true] at hx hy
          unfold toQs
          simp only [PyData.eqvAll, Bool.and_eq_true, List.cons.injEq, eqv_pl n x y hx.1 hy.1, ih ys hx.2 hy.2]
    unfold pl at h h'
    unfold toQ
    cases d with
    | non => cases e <;> first | (cases h'; done) | (simp only [PyData.eqv, Bool.false_eq_true, reduceCtorEq])
    | int i => cases e <;> first | (cases h'; done) | (simp only [PyData.eqv, Bool.false_eq_true, reduceCtorEq, beq_iff_eq, D.int.injEq])
    | str z => cases e <;> first | (cases h'; done) | (simp only [PyData.eqv, Bool.false_eq_true, reduceCtorEq, beq_iff_eq, D.str.injEq, Str.mk.injEq, Array.mk.injEq, List.toArray_inj])
    | tup xs => cases e <;> first | (cases h'; done) | (simp only [PyData.eqv, Bool.false_eq_true, reduceCtorEq]; done) | (simp only [PyData.eqv, D.tup.injEq]; exact key _ _ h h')
    | lst xs => cases e <;> first | (cases h'; done) | (simp only [PyData.eqv, Bool.false_eq_true, reduceCtorEq]; done) | (simp only [PyData.eqv, D.lst.injEq]; exact key _ _ h h')
    | bl b => cases h
    | fl xs => cases h
    | ref k => cases h
    | ty t => cases h
theorem pl_mono : ∀ {n m : Nat} {d : D}, n ≤ m → pl n d = true → pl m d = true
  | 0, _, _, _, h => by cases h
  | n + 1, 0, _, h, _ => by omega
  | n + 1, m + 1, d, hm, h => by
    have hm : n ≤ m := by omega
    unfold pl at h ⊢
    cases d with
    | tup xs =>
      have h : xs.all (pl n) = true := h
      show xs.all (pl m) = true
      rw [List.all_eq_true] at h ⊢
      exact fun x hx => pl_mono hm (h x hx)
    | lst xs =>
      have h : xs.all (pl n) = true := h
      show xs.all (pl m) = true
      rw [List.all_eq_true] at h ⊢
      exact fun x hx => pl_mono hm (h x hx)
    | _ => exact h
theorem shaped_pl {n : Nat} {d : D} (hn : n ≤ 60) (h : pl n d = true) : SeqAt.shaped (toQ 60 d) = true := by
  obtain ⟨h1, h2⟩ := can_pl 60 d (pl_mono hn h)
  show (_ && decide _) = true
  rw [h1, decide_eq_true (by omega)]
  rfl
open Classical in
/-- == of plain data -/
theorem eqO_pl {n : Nat} (hn : n ≤ 60) {d e : D} {M : Mem} (h : pl n d = true) (h' : pl n e = true) : eqO d e M = some (decide (d = e)) := by
  have a := pl_mono hn h
  have b := pl_mono hn h'
  unfold eqO
  rw [pdN_pl M 60 d a, pdN_pl M 60 e b]
  simp only [shaped_pl hn h, shaped_pl hn h', Bool.and_self, if_true]
  congr 1
  by_cases q : d = e
  · rw [decide_eq_true q, (eqv_pl 60 d e a b).mpr q]
  · rw [decide_eq_false q]
    exact Bool.eq_false_iff.mpr fun z => q ((eqv_pl 60 d e a b).mp z)
theorem eqO_int {i j : Int} {M : Mem} : eqO (.int i) (.int j) M = some (decide (i = j)) := by
  rw [eqO_pl (n := 1) (by decide) rfl rfl]
  by_cases q : i = j
  · subst q; simp
  · simp [q]
open Classical in
/-- in, of plain data -/
theorem inO_pl {n : Nat} (hn : n + 1 ≤ 60) {d : D} {xs : List D} {M : Mem} (h : pl n d = true) (h' : xs.all (pl n) = true) : inO d (.tup xs) M = some (decide (d ∈ xs)) := by
  have hx : pl (n + 1) (.tup xs) = true := h'
  have a := pl_mono (Nat.le_of_succ_le hn) h
  have b := pl_mono hn hx
  have a' : pl 59 d = true := pl_mono (by omega) h
  have b' : xs.all (pl 59) = true := b
  have hin : inO d (.tup xs) M = match pdN M 60 d with
      | some p => match pdN M 60 (.tup xs) with
        | some (.list qs) => if (SeqAt.shaped p && SeqAt.shaped (.list qs)) = true then some (qs.any fun z => PyData.eqv z p) else none
        | some (.tuple qs) => if (SeqAt.shaped p && SeqAt.shaped (.tuple qs)) = true then some (qs.any fun z => PyData.eqv z p) else none
        | _ => none
      | none => none := by
    cases d with
    | str z =>
      match z with
      | [] => rfl
      | [c] => rfl
      | c :: c' :: r => rfl
    | _ => rfl
  rw [hin, pdN_pl M 60 d a, pdN_pl M 60 _ b]
  have e1 : toQ 60 (.tup xs) = .tuple (toQs 59 xs) := by rw [toQ]
  rw [e1]
  have s1 := shaped_pl (Nat.le_of_succ_le hn) h
  have s2 := shaped_pl hn hx
  rw [e1] at s2
  simp only [s1, s2, Bool.and_self, if_true]
  congr 1
  have e2 : ∀ (m : Nat) (d : D), pl m d = true → toQ (m + 1) d = toQ m d := by
    intro m
    induction m with
    | zero => intro d h; cases h
    | succ m ih =>
      intro d h
      have key : ∀ ys : List D, ys.all (pl m) = true → toQs (m + 1) ys = toQs m ys := by
        intro ys
        induction ys with
        | nil => intro _; unfold toQs; rfl
        | cons y ys ihy =>
          intro hy
          rw [List.all_cons, Bool.and_eq_true] at hy
          rw [toQs, toQs, ih y hy.1, ihy hy.2]
      unfold pl at h
      cases d with
      | tup ys => rw [toQ, toQ]; exact congrArg _ (key ys h)
      | lst ys => rw [toQ, toQ]; exact congrArg _ (key ys h)
      | non => simp only [toQ]
      | int i => rw [toQ, toQ]
      | str z => rw [toQ, toQ]
      | bl b => cases h
      | fl xs => cases h
      | ref k => cases h
      | ty t => cases h
  rw [e2 59 d a', toQs_map]
  rw [List.all_eq_true] at b'
  by_cases q : d ∈ xs
  · rw [decide_eq_true q, List.any_eq_true]
    exact ⟨toQ 59 d, List.mem_map.mpr ⟨d, q, rfl⟩, (eqv_pl 59 d d a' a').mpr rfl⟩
  · rw [decide_eq_false q]
    refine Bool.eq_false_iff.mpr fun z => q ?_
    rw [List.any_eq_true] at z
    obtain ⟨y, hy, hz⟩ := z
    obtain ⟨x, hx, rfl⟩ := List.mem_map.mp hy
    rw [← (eqv_pl 59 x d (b' x hx) a').mp hz]
    exact hx
/-! ### evaluation -/
theorem nrfl {α : Type} {a b : α} (h : a = b) : a = b := h
section
variable {α β : Type} {σ : SD} {M M1 M2 : Mem}
/-- a continuation that waits: a simplifier goes into x alone -/
structure Tag {γ : Type} (c : γ) : Type where
def bnd (x : Out α) (f : α → Mem → Out β) (_ : Tag f) : Out β := x.bind f
def optB (x : Option α) (f : α → Out β) (_ : Tag f) : Out β := optO x f
@[simp ↓] theorem to_bnd {x : Out α} {f : α → Mem → Out β} : x.bind f = bnd x f ⟨⟩ := nrfl rfl
@[simp ↓] theorem to_optB {x : Option α} {f : α → Out β} : optO x f = optB x f ⟨⟩ := nrfl rfl
@[simp] theorem bnd_ok {a : α} {f : α → Mem → Out β} {t : Tag f} : bnd (.ok a M) f t = f a M := nrfl rfl
@[simp] theorem bnd_bad {f : α → Mem → Out β} {t : Tag f} : bnd (.bad : Out α) f t = .bad := nrfl rfl
@[simp] theorem optB_some {a : α} {f : α → Out β} {t : Tag f} : optB (some a) f t = f a := nrfl rfl
@[simp] theorem optB_none {f : α → Out β} {t : Tag f} : optB (none : Option α) f t = .bad := nrfl rfl
@[simp] theorem ev_bind {a : α} {f : α → Mem → Out β} : (Out.ok a M).bind f = f a M := nrfl rfl
@[simp] theorem ev_bad {f : α → Mem → Out β} : (Out.bad : Out α).bind f = .bad := nrfl rfl
@[simp] theorem ev_nox {a : α} : (Out.ok a M).nox = .ok a M := nrfl rfl
@[simp] theorem ev_var {i : Nat} : fVar i σ M = match σ[i]? with
  | some (some d) => .ok d M
  | _ => .bad := nrfl rfl
@[simp] theorem ev_c {d : D} : fC d σ M = .ok d M := nrfl rfl
@[simp] theorem ev_bin {g : D → D → Mem → Out D} {fa fb : SF} : fBin g fa fb σ M = (fa σ M).bind fun x M1 => (fb σ M1).bind fun y M2 => g x y M2 := nrfl rfl
@[simp] theorem ev_asB {f : SF} : asB f σ M = (f σ M).bind fun x M1 => match x with
  | .bl b => .ok b M1
  | _ => .bad := nrfl rfl
@[simp] theorem ev_tru {f : SF} : fTru f σ M = (f σ M).bind fun x M1 => optO (truO x M1) fun b => .ok b M1 := nrfl rfl
@[simp] theorem ev_and {f g : SB} : bAnd f g σ M = (f σ M).bind fun b M1 => if b = true then g σ M1 else .ok false M1 := by
  unfold bAnd; congr 1; funext b M1; cases b <;> rfl
@[simp] theorem ev_or {f g : SB} : bOr f g σ M = (f σ M).bind fun b M1 => if b = true then .ok true M1 else g σ M1 := by
  unfold bOr; congr 1; funext b M1; cases b <;> rfl
@[simp] theorem ev_not {f : SB} : bNot f σ M = (f σ M).bind fun b M1 => .ok (!b) M1 := nrfl rfl
@[simp] theorem ev_fand {f g : SF} : fAnd f g σ M = (f σ M).bind fun x M1 => optO (truO x M1) fun b => if b = true then g σ M1 else .ok x M1 := by
  unfold fAnd; congr 1; funext x M1; congr 1; funext b; cases b <;> rfl
@[simp] theorem ev_for {f g : SF} : fOr f g σ M = (f σ M).bind fun x M1 => optO (truO x M1) fun b => if b = true then .ok x M1 else g σ M1 := by
  unfold fOr; congr 1; funext x M1; congr 1; funext b; cases b <;> rfl
@[simp] theorem ev_fnot {f : SF} : fNot f σ M = (f σ M).bind fun x M1 => optO (truO x M1) fun b => .ok (.bl (!b)) M1 := nrfl rfl
@[simp] theorem ev_if {c : SB} {f g : SF} : fIf c f g σ M = (c σ M).bind fun b M1 => if b = true then f σ M1 else g σ M1 := by
  unfold fIf; congr 1; funext b M1; cases b <;> rfl
@[simp] theorem ev_chain {g g' : D → D → Mem → Out D} {fa fb fc : SF} : fChain g g' fa fb fc σ M = (fa σ M).bind fun x M1 => (fb σ M1).bind fun y M2 => (g x y M2).bind fun z M3 => match z with
  | .bl true => (fc σ M3).bind fun w M4 => g' y w M4
  | .bl false => .ok (.bl false) M3
  | _ => .bad := by
  first | rfl | (unfold fChain; rfl)
@[simp] theorem ev_nil : fsNil σ M = .ok [] M := nrfl rfl
@[simp] theorem ev_cons {f : SF} {g : SFs} : fsCons f g σ M = (f σ M).bind fun x M1 => (g σ M1).bind fun xs M2 => .ok (x :: xs) M2 := nrfl rfl
@[simp] theorem ev_tup {g : SFs} : fTup g σ M = (g σ M).bind fun xs M1 => if xs.length ≤ 16777216 then .ok (.tup xs) M1 else .bad := nrfl rfl
@[simp] theorem ev_lst {g : SFs} : fLst g σ M = (g σ M).bind fun xs M1 => if xs.length ≤ 16777216 then .ok (.lst xs) M1 else .bad := nrfl rfl
@[simp] theorem ev_lstN {g : SFs} : fLstN g σ M = (g σ M).bind fun xs M1 => if xs.length ≤ 16777216 then .ok (.ref M1.length) (M1 ++ [.lst xs]) else .bad := nrfl rfl
@[simp] theorem ev_un {g : D → Mem → Option D} {f : SF} : fUn g f σ M = (f σ M).bind fun x M1 => optO (g x M1) fun d => .ok d M1 := nrfl rfl
@[simp] theorem ev_onone : oNone σ M = .ok none M := nrfl rfl
@[simp] theorem ev_osome {f : SF} : oSome f σ M = (f σ M).bind fun x M1 => match x with
  | .int i => .ok (some i) M1
  | _ => .bad := nrfl rfl
@[simp] theorem ev_sl {f : SF} {lo hi : SO} : fSl f lo hi σ M = (f σ M).bind fun x M1 => (lo σ M1).bind fun l M2 => (hi σ M2).bind fun h M3 => optO (slO x l h M3) fun d => .ok d M3 := nrfl rfl
@[simp] theorem ev_call {g : List D → Mem → Out D} {fa : SFs} : fCall g fa σ M = (fa σ M).bind g := nrfl rfl
@[simp] theorem ev_callD {m : Nat} {g : List D → Mem → Out D} {fa : SFs} : fCallD m g fa σ M = (fa σ M).bind fun ds M1 => if ds.length = m then g ds M1 else .bad := nrfl rfl
@[simp] theorem ev_callK {pm : List Nat} {n : Nat} {g : List D → Mem → Out D} {fa : SFs} : fCallK pm n g fa σ M = (fa σ M).bind fun ds M1 => if ds.length = n then g (permL pm .non ds) M1 else .bad := nrfl rfl
@[simp] theorem ev_mt {T : String} {g : D → List D → Mem → Out D} {fo : SF} {fa : SFs} : fMt T g fo fa σ M = (fo σ M).bind fun o M1 => if tyM o M1 = some T then (fa σ M1).bind fun ds M2 => g o ds M2 else .bad := nrfl rfl
@[simp] theorem ev_rg1 {f : SF} : fRg1 f σ M = (f σ M).bind fun d M1 => match d with
  | .int j => .ok ((0 : Int), j) M1
  | _ => .bad := nrfl rfl
@[simp] theorem ev_rg2 {f g : SF} : fRg2 f g σ M = (f σ M).bind fun d M1 => (g σ M1).bind fun e M2 => match d, e with
  | .int i, .int j => .ok (i, j) M2
  | _, _ => .bad := nrfl rfl
@[simp] theorem ev_lrg {f : SD → Mem → Out (Int × Int)} : fLRg f σ M = (f σ M).bind fun ij M1 => if rgOk ij.1 ij.2 = true then .ok (.lst (rngL ij.1 (ij.2 - ij.1).toNat)) M1 else .bad := nrfl rfl
@[simp] theorem ev_lrgN {f : SD → Mem → Out (Int × Int)} : fLRgN f σ M = (f σ M).bind fun ij M1 => if rgOk ij.1 ij.2 = true then .ok (.ref M1.length) (M1 ++ [.lst (rngL ij.1 (ij.2 - ij.1).toNat)]) else .bad := nrfl rfl
@[simp] theorem ev_trg {f : SD → Mem → Out (Int × Int)} : fTRg f σ M = (f σ M).bind fun ij M1 => if rgOk ij.1 ij.2 = true then .ok (.tup (rngL ij.1 (ij.2 - ij.1).toNat)) M1 else .bad := nrfl rfl
@[simp] theorem ev_lc {vs : List Nat} {fi : SI} {g : SG} {t : SB} {e : SF} : fLc vs fi g t e σ M = (fi σ M).bind fun iv M1 => if ivLen iv M1 < 16777216 then (lcRun iv g t e (wipeD σ vs) M1).nox.bind fun ys M2 => .ok (.lst ys) M2 else .bad := nrfl rfl
@[simp] theorem ev_lc2N {vs vs1 : List Nat} {fi fi1 : SI} {g g1 : SG} {t t1 : SB} {e : SF} : fLc2N vs vs1 fi g t fi1 g1 t1 e σ M = (fi σ M).bind fun iv M1 => (lc2N iv g t vs1 fi1 g1 t1 e M1.length (ivLen iv M1 + 1) 0 (wipeD σ vs) (M1 ++ [.lst []])).nox.bind fun _ M2 => .ok (.ref M1.length) M2 := nrfl rfl
@[simp] theorem ev_lcN {vs : List Nat} {fi : SI} {g : SG} {t : SB} {e : SF} : fLcN vs fi g t e σ M = (fi σ M).bind fun iv M1 => (lcN iv g t e M1.length (ivLen iv M1 + 1) 0 (wipeD σ vs) (M1 ++ [.lst []])).nox.bind fun _ M2 => .ok (.ref M1.length) M2 := nrfl rfl
@[simp] theorem ev_lcst {xs : List D} {g : SG} {t : SB} {e : SF} : lcRun (.st xs) g t e σ M = lcL g t e xs σ M := nrfl rfl
@[simp] theorem ev_ivst {xs : List D} : ivLen (.st xs) M = xs.length := nrfl rfl
@[simp] theorem ev_yes : bYes σ M = .ok true M := nrfl rfl
@[simp] theorem ev_iof {f : SF} : iOf f σ M = (f σ M).bind fun d M1 => optO (ivO d M1) fun iv => .ok iv M1 := nrfl rfl
@[simp] theorem ev_r1 {fa : SFs} : iRange1 fa σ M = (fa σ M).bind fun ds M1 => match ds with
  | [.int j] => if small62 j = true then .ok (.st (rngL 0 j.toNat)) M1 else .bad
  | _ => .bad := nrfl rfl
@[simp] theorem ev_r2 {fa : SFs} : iRange2 fa σ M = (fa σ M).bind fun ds M1 => match ds with
  | [.int i, .int j] => if (small62 i && small62 j) = true then .ok (.st (rngL i (j - i).toNat)) M1 else .bad
  | _ => .bad := nrfl rfl
@[simp] theorem ev_enum {fa : SFs} : iEnumD fa σ M = (fa σ M).bind fun ds M1 => match ds with
  | [d] => optO (ivsO d M1) fun iv => .ok (pairs .cnt iv) M1
  | _ => .bad := nrfl rfl
@[simp] theorem ev_zip {fa : SFs} : iZipD fa σ M = (fa σ M).bind fun ds M1 => match ds with
  | [d, e] => optO (ivsO d M1) fun a => optO (ivsO e M1) fun b => .ok (pairs a b) M1
  | _ => .bad := nrfl rfl
@[simp] theorem ev_snil : sNil σ M = .ok (.nx σ) M := nrfl rfl
@[simp] theorem ev_never : sNever σ M = .bad := nrfl rfl
@[simp] theorem ev_break : sBreak σ M = .ok (.bk σ) M := nrfl rfl
@[simp] theorem ev_cont : sCont σ M = .ok (.ct σ) M := nrfl rfl
@[simp] theorem ev_expr {f : SF} : sExpr f σ M = (f σ M).bind fun _ M1 => .ok (.nx σ) M1 := nrfl rfl
@[simp] theorem ev_ret {f : SF} : sRet f σ M = (f σ M).bind fun d M1 => .ok (.rt d) M1 := nrfl rfl
@[simp] theorem ev_retN : sRetN σ M = .ok (.rt .non) M := nrfl rfl
@[simp] theorem ev_sif {c : SB} {f g : SS} : sIf c f g σ M = (c σ M).bind fun b M1 => if b = true then f σ M1 else g σ M1 := by
  unfold sIf; congr 1; funext b M1; cases b <;> rfl
@[simp] theorem ev_seq {f g : SS} : sSeq f g σ M = (f σ M).bind fun fl M1 => match fl with
  | .nx σ1 => g σ1 M1
  | fl => .ok fl M1 := by
  first | rfl | (unfold sSeq; congr 1; funext fl M1; cases fl <;> rfl)
@[simp] theorem ev_asg2 {f : SF} {g1 g2 : SG} : sAsg2 f g1 g2 σ M = (f σ M).bind fun d M1 => (g1 d σ M1).bind fun σ1 M2 => (g2 d σ1 M2).bind fun σ2 M3 => .ok (.nx σ2) M3 := nrfl rfl
@[simp] theorem ev_asg {f : SF} {g : SG} : sAsg f g σ M = (f σ M).bind fun d M1 => (g d σ M1).bind fun σ' M2 => .ok (.nx σ') M2 := nrfl rfl
@[simp] theorem ev_gset {i : Nat} {d : D} : gSet i d σ M = .ok (σ.set i (some d)) M := nrfl rfl
@[simp] theorem ev_gsub {fo fi : SF} {d : D} : gSub fo fi d σ M = (fo σ M).bind fun o M1 => (fi σ M1).bind fun i M2 => match setO o i d M2 with
  | some M3 => .ok σ M3
  | none => .bad := nrfl rfl
@[simp] theorem ev_par {i j : Nat} {fa : SFs} : sPar i j fa σ M = (fa σ M).bind fun ds M1 => match ds with
  | [d, e] => .ok (.nx ((σ.set i (some d)).set j (some e))) M1
  | _ => .bad := nrfl rfl
@[simp] theorem ev_par3 {i j l : Nat} {fa : SFs} : sPar3 i j l fa σ M = (fa σ M).bind fun ds M1 => match ds with
  | [d, e, f] => .ok (.nx (((σ.set i (some d)).set j (some e)).set l (some f))) M1
  | _ => .bad := nrfl rfl
@[simp] theorem ev_aug {i : Nat} {g : D → D → Mem → Out D} {f : SF} : sAug i g f σ M = match σ[i]? with
  | some (some x) => (f σ M).bind fun y M1 => (g x y M1).bind fun z M2 => .ok (.nx (σ.set i (some z))) M2
  | _ => .bad := nrfl rfl
@[simp] theorem ev_sfor {fi : SI} {g : SG} {b : SS} : sFor fi g b σ M = (fi σ M).bind fun iv M1 => forU g b iv σ M1 := nrfl rfl
@[simp] theorem ev_forst {g : SG} {b : SS} {xs : List D} : forU g b (.st xs) σ M = forL g b xs σ M := nrfl rfl
@[simp] theorem ev_fornil {g : SG} {b : SS} : forL g b [] σ M = .ok (.nx σ) M := nrfl rfl
@[simp] theorem ev_lcnil {g : SG} {t : SB} {e : SF} : lcL g t e [] σ M = .ok [] M := nrfl rfl
@[simp] theorem ev_wipe0 : wipeD σ [] = σ := nrfl rfl
@[simp] theorem ev_wipe1 {v : Nat} {vs : List Nat} : wipeD σ (v :: vs) = (wipeD σ vs).set v none := nrfl rfl
@[simp] theorem ev_pure2 {f : D → D → Mem → Option D} {x y : D} : pure2 f x y M = optO (f x y M) fun d => .ok d M := nrfl rfl
@[simp] theorem ev_pureC {f : List D → Mem → Option D} {ds : List D} : pureC f ds M = optO (f ds M) fun d => .ok d M := nrfl rfl
@[simp] theorem ev_some {a : α} {f : α → Out β} : optO (some a) f = f a := nrfl rfl
@[simp] theorem ev_none {f : α → Out β} : optO (none : Option α) f = .bad := nrfl rfl
@[simp] theorem ev_bO {b : Bool} : bO (some b) = some (.bl b) := nrfl rfl
@[simp] theorem ev_nbO {b : Bool} : nbO (some b) = some (.bl (!b)) := nrfl rfl
@[simp] theorem ev_eqint {i j : Int} : dEq (.int i) (.int j) M = .ok (.bl (decide (i = j))) M := by
  unfold dEq; simp only [ev_pure2, eqO_int, ev_bO, ev_some]
@[simp] theorem ev_neint {i j : Int} : dNe (.int i) (.int j) M = .ok (.bl (!decide (i = j))) M := by
  unfold dNe; simp only [ev_pure2, eqO_int, ev_nbO, ev_some]
@[simp] theorem ev_ltint {i j : Int} : dLt (.int i) (.int j) M = .ok (.bl (decide (i < j))) M := nrfl rfl
@[simp] theorem ev_leint {i j : Int} : dLe (.int i) (.int j) M = .ok (.bl (decide (i ≤ j))) M := nrfl rfl
@[simp] theorem ev_addint {i j : Int} : dAdd (.int i) (.int j) M = .ok (.int (i + j)) M := nrfl rfl
@[simp] theorem ev_subint {i j : Int} : dSub (.int i) (.int j) M = .ok (.int (i - j)) M := nrfl rfl
@[simp] theorem ev_mulint {i j : Int} : dMul (.int i) (.int j) M = if mulOk i j = true then .ok (.int (i * j)) M else .bad := nrfl rfl
@[simp] theorem ev_mulTint {i j : Int} : dMulT (.int i) (.int j) M = if mulOk i j = true then .ok (.int (i * j)) M else .bad := nrfl rfl
@[simp] theorem ev_mulIint {i j : Int} : dMulI (.int i) (.int j) M = if mulOk i j = true then .ok (.int (i * j)) M else .bad := nrfl rfl
@[simp] theorem ev_iaddint {i j : Int} : iAdd (.int i) (.int j) M = .ok (.int (i + j)) M := nrfl rfl
@[simp] theorem ev_divint {i j : Int} : dDiv (.int i) (.int j) M = if 0 < j ∧ j.natAbs.log2 < 9000 then .ok (.int (i / j)) M else .bad := nrfl rfl
@[simp] theorem ev_modint {i j : Int} : dMod (.int i) (.int j) M = if 0 < j then .ok (.int (i % j)) M else .bad := nrfl rfl
@[simp] theorem ev_powint {i j : Int} : dPow (.int i) (.int j) M = if 0 ≤ j ∧ j ≤ 1000000 ∧ i.natAbs < 2 ^ 64 then .ok (.int (i ^ j.toNat)) M else .bad := nrfl rfl
@[simp] theorem ev_truBl {b : Bool} : truO (.bl b) M = some b := nrfl rfl
@[simp] theorem ev_def {n : Nat} {b : SS} {ds : List D} : fDef n b ds M = (b (ds.map some ++ List.replicate (n - ds.length) none) M).bind fun fl M1 => match fl with
  | .nx _ => .ok .non (gc M.length .non M1)
  | .rt d => .ok d (gc M.length d M1)
  | _ => .bad := nrfl rfl
end
theorem gtint {i j : Int} {M : Mem} : dGt (.int i) (.int j) M = .ok (.bl (decide (j < i))) M := rfl
theorem geint {i j : Int} {M : Mem} : dGe (.int i) (.int j) M = .ok (.bl (decide (j ≤ i))) M := rfl
theorem isiInt {d : D} {M : Mem} : True := trivial
/-- a call that makes nothing -/
@[simp] theorem gc_len {d : D} {M : Mem} {n : Nat} (h : n = M.length) : gc n d M = M := by
  subst h; unfold gc; split
  · exact List.take_length
  · rfl
/-- it leads to itself alone -/
def Mp (M : Mem) : Bool := M.all (MO.low M.length)
/-- what a call has made goes, where nothing refers to it -/
theorem gc_appB {d : D} {M M' : Mem} (h : Mp M = true) (hd : d.low M.length = true) : gc M.length d (M ++ M') = M := by
  unfold gc
  rw [List.take_left']
  · rw [if_pos]
    rw [hd, Bool.true_and]; exact h
  · rfl
theorem gc_app {d : D} {M M' : Mem} (h : Mp M = true) (hd : d.pure = true) : gc M.length d (M ++ M') = M := gc_appB h (D.pure_low hd)
theorem gc_keep {d : D} {n : Nat} {M : Mem} (h : d.low n = false) : gc n d M = M := by
  unfold gc
  rw [h, Bool.false_and, if_neg (by simp)]
/-! ### loops -/
theorem forL_cons {g : SG} {b : SS} {x : D} {xs : List D} {σ : SD} {M : Mem} : forL g b (x :: xs) σ M = (g x σ M).bind fun σ1 M1 => (b σ1 M1).bind fun fl M2 => match fl with
    | .nx σ2 => forL g b xs σ2 M2
    | .ct σ2 => forL g b xs σ2 M2
    | .bk σ2 => .ok (.nx σ2) M2
    | .rt d => .ok (.rt d) M2 := by
  rw [forL] <;> rfl
theorem lcL_cons {g : SG} {t : SB} {e : SF} {x : D} {xs : List D} {σ : SD} {M : Mem} : lcL g t e (x :: xs) σ M = (g x σ M).bind fun σ1 M1 => (t σ1 M1).bind fun b M2 => if b = true then (e σ1 M2).bind fun y M3 => (lcL g t e xs σ M3).bind fun ys M4 => .ok (y :: ys) M4 else lcL g t e xs σ M2 := by
  rw [lcL]; congr 1; funext σ1 M1; congr 1; funext b M2; cases b <;> rfl
/-- a loop keeps a relation of the items done, the slots and the memory -/
theorem forL_inv {g : SG} {b : SS} {xs : List D} (I : Nat → SD → Mem → Prop) (h : ∀ i x σ M, xs[i]? = some x → I i σ M → ∃ σ1 M1 σ2 M2, g x σ M = .ok σ1 M1 ∧ (b σ1 M1 = .ok (.nx σ2) M2 ∨ b σ1 M1 = .ok (.ct σ2) M2) ∧ I (i + 1) σ2 M2) :
    ∀ (ys : List D) (i : Nat) (σ : SD) (M : Mem), xs.drop i = ys → I i σ M → ∃ σ' M', forL g b ys σ M = .ok (.nx σ') M' ∧ I (i + ys.length) σ' M'
  | [], i, σ, M, _, hi => ⟨σ, M, rfl, hi⟩
  | y :: ys, i, σ, M, hd, hi => by
    have e1 : xs[i]? = some y := by
      have := List.getElem?_drop (xs := xs) (i := i) (j := 0)
      rw [hd] at this
      simpa using this.symm
    have e2 : xs.drop (i + 1) = ys := by
      rw [← List.drop_drop, hd]; rfl
    obtain ⟨σ1, M1, σ2, M2, h1, h2, h3⟩ := h i y σ M e1 hi
    obtain ⟨σ', M', h4, h5⟩ := forL_inv I h ys (i + 1) σ2 M2 e2 h3
    refine ⟨σ', M', ?_, by rw [List.length_cons]; rw [show i + (ys.length + 1) = i + 1 + ys.length by omega]; exact h5⟩
    rw [forL_cons, h1, ev_bind]
    rcases h2 with h2 | h2
    · rw [h2, ev_bind]; exact h4
    · rw [h2, ev_bind]; exact h4
theorem for_inv {g : SG} {b : SS} {xs : List D} {σ : SD} {M : Mem} (I : Nat → SD → Mem → Prop) (h0 : I 0 σ M) (h : ∀ i x σ M, xs[i]? = some x → I i σ M → ∃ σ1 M1 σ2 M2, g x σ M = .ok σ1 M1 ∧ (b σ1 M1 = .ok (.nx σ2) M2 ∨ b σ1 M1 = .ok (.ct σ2) M2) ∧ I (i + 1) σ2 M2) :
    ∃ σ' M', forL g b xs σ M = .ok (.nx σ') M' ∧ I xs.length σ' M' := by
  have := forL_inv I h xs 0 σ M rfl h0
  simpa using this
/-- a list that is made, the memory kept by a relation -/
theorem lc_inv {g : SG} {t : SB} {e : SF} {σ : SD} (I : Mem → Prop) (P : D → Prop) : ∀ (xs : List D) (M : Mem), I M →
    (∀ x ∈ xs, ∀ M, I M → ∃ σ1 M1 b M2, g x σ M = .ok σ1 M1 ∧ t σ1 M1 = .ok b M2 ∧ (b = false → I M2) ∧ (b = true → ∃ y M3, e σ1 M2 = .ok y M3 ∧ I M3 ∧ P y)) →
    ∃ ys M', lcL g t e xs σ M = .ok ys M' ∧ I M' ∧ ∀ y ∈ ys, P y
  | [], M, hI, _ => ⟨[], M, rfl, hI, fun y hy => by cases hy⟩
  | x :: xs, M, hI, h => by
    obtain ⟨σ1, M1, b, M2, h1, h2, h3, h4⟩ := h x (List.mem_cons_self ..) M hI
    have h' := fun y hy => h y (List.mem_cons_of_mem _ hy)
    rw [lcL_cons, h1, ev_bind, h2, ev_bind]
    cases b with
    | false =>
      rw [if_neg Bool.false_ne_true]
      exact lc_inv I P xs M2 (h3 rfl) h'
    | true =>
      obtain ⟨y, M3, h5, h6, h7⟩ := h4 rfl
      obtain ⟨ys, M4, h8, h9, h10⟩ := lc_inv I P xs M3 h6 h'
      refine ⟨y :: ys, M4, by rw [if_pos rfl, h5, ev_bind, h8, ev_bind], h9, fun z hz => ?_⟩
      rcases List.mem_cons.mp hz with rfl | hz
      · exact h7
      · exact h10 z hz
/-- a list that is made, the memory unchanged -/
theorem lc_map {g : SG} {t : SB} {e : SF} {σ : SD} {M : Mem} (p : D → Bool) (f : D → D) : ∀ (xs : List D),
    (∀ x ∈ xs, ∃ σ1, g x σ M = .ok σ1 M ∧ t σ1 M = .ok (p x) M ∧ (p x = true → e σ1 M = .ok (f x) M)) → lcL g t e xs σ M = .ok ((xs.filter p).map f) M
  | [], _ => rfl
  | x :: xs, h => by
    obtain ⟨σ1, h1, h2, h3⟩ := h x (List.mem_cons_self ..)
    have ih := lc_map p f xs fun y hy => h y (List.mem_cons_of_mem _ hy)
    rw [lcL_cons, h1, ev_bind, h2, ev_bind]
    cases q : p x with
    | false => rw [if_neg Bool.false_ne_true, ih, List.filter_cons_of_neg (by rw [q]; exact Bool.false_ne_true)]
    | true => rw [if_pos rfl, h3 q, ev_bind, ih, ev_bind, List.filter_cons_of_pos q]; rfl
end KP

set_option autoImplicit false
/-! more evaluation -/
namespace KP
open PySem PySem.Spec PyProof.Rows L2
section
variable {σ : SD} {M : Mem} {d e : D} {n : Nat} {i j : Int} {xs ys : List D} {z : List Nat}
@[simp] theorem ev_gsnil : gsNil [] σ M = .ok σ M := nrfl rfl
@[simp] theorem ev_gscons {g : SG} {gs : List D → SD → Mem → Out SD} {ds : List D} : gsCons g gs (d :: ds) σ M = (g d σ M).bind fun σ1 M1 => gs ds σ1 M1 := nrfl rfl
@[simp] theorem ev_gtup {gs : List D → SD → Mem → Out SD} : gTup n gs (.tup xs) σ M = if xs.length = n then gs xs σ M else .bad := nrfl rfl
@[simp] theorem ev_divmod : cDivmod [.int i, .int j] M = if 0 < j ∧ (j < 1073741824 ∨ j.natAbs.log2 < 9000) then .ok (.tup [.int (i / j), .int (i % j)]) M else .bad := nrfl rfl
@[simp] theorem ev_gtint : dGt (.int i) (.int j) M = .ok (.bl (decide (j < i))) M := nrfl rfl
@[simp] theorem ev_geint : dGe (.int i) (.int j) M = .ok (.bl (decide (j ≤ i))) M := nrfl rfl
@[simp] theorem ev_isint : cIsi [.int i, .ty "int"] M = some (.bl true) := nrfl rfl
@[simp] theorem ev_isintb : cIsi [.int i, .ty "bool"] M = some (.bl false) := nrfl rfl
@[simp] theorem ev_istup : cIsi [.tup xs, .ty "tuple"] M = some (.bl true) := nrfl rfl
@[simp] theorem ev_iststr : cIsi [.str z, .ty "str"] M = some (.bl true) := nrfl rfl
@[simp] theorem ev_isbool {b : Bool} : cIsi [.bl b, .ty "bool"] M = some (.bl true) := nrfl rfl
@[simp] theorem ev_isboolint {b : Bool} : cIsi [.bl b, .ty "int"] M = some (.bl true) := nrfl rfl
@[simp] theorem ev_lentup : cLen [.tup xs] M = some (.int xs.length) := nrfl rfl
@[simp] theorem ev_lenlst : cLen [.lst xs] M = some (.int xs.length) := nrfl rfl
@[simp] theorem ev_lenfl : cLen [.fl xs] M = some (.int xs.length) := nrfl rfl
theorem ev_lenref (h : M[n]? = some (.lst xs)) : cLen [.ref n] M = some (.int xs.length) := by
  show (match M[n]? with
    | some (.lst xs) => some (D.int xs.length)
    | _ => none) = _
  rw [h]
@[simp] theorem ev_int : cInt [.int i] M = some (.int i) := nrfl rfl
@[simp] theorem ev_intb {b : Bool} : cInt [.bl b] M = some (.int (if b then 1 else 0)) := nrfl rfl
@[simp] theorem ev_abs : cAbs [.int i] M = some (.int (if i < 0 then -i else i)) := nrfl rfl
@[simp] theorem ev_max2 : cMax [.int i, .int j] M = some (.int (if j > i then j else i)) := nrfl rfl
@[simp] theorem ev_min2 : cMin [.int i, .int j] M = some (.int (if j < i then j else i)) := nrfl rfl
@[simp] theorem ev_lstO : lsO (.lst xs) M = some xs := nrfl rfl
@[simp] theorem ev_lsfl : lsO (.fl xs) M = some xs := nrfl rfl
theorem ev_lsref (h : M[n]? = some (.lst xs)) : lsO (.ref n) M = some xs := by
  show (match M[n]? with
    | some (.lst xs) => some xs
    | _ => none) = _
  rw [h]
@[simp] theorem ev_seqtup : seqO (.tup xs) M = some xs := nrfl rfl
@[simp] theorem ev_seqlst : seqO (.lst xs) M = some xs := nrfl rfl
@[simp] theorem ev_seqfl : seqO (.fl xs) M = some xs := nrfl rfl
theorem ev_seqref (h : M[n]? = some (.lst xs)) : seqO (.ref n) M = some xs := ev_lsref h
@[simp] theorem ev_tuple : cTuple [d] M = optO (seqO d M) fun xs => .ok (.tup xs) M := nrfl rfl
@[simp] theorem ev_list : cList [d] M = optO (seqO d M) fun xs => .ok (.lst xs) M := nrfl rfl
@[simp] theorem ev_listN : cListN [d] M = optO (seqO d M) fun xs => .ok (.ref M.length) (M ++ [.lst xs]) := nrfl rfl
@[simp] theorem ev_ixtup : ixO (.tup xs) (.int i) M = atI xs i := nrfl rfl
@[simp] theorem ev_ixlst : ixO (.lst xs) (.int i) M = atI xs i := nrfl rfl
@[simp] theorem ev_ixfl : ixO (.fl xs) (.int i) M = atI xs i := nrfl rfl
theorem ixO_ref (h : M[n]? = some (.lst xs)) : ixO (.ref n) (.int i) M = atI xs i := by
  show (match seqO (.ref n) M with
    | some xs => atI xs i
    | none => none) = _
  rw [ev_seqref h]
theorem setO_ref {v : D} (h : M[n]? = some (.lst xs)) : setO (.ref n) (.int i) v M = (ixN xs.length i).map fun j => M.set n (.lst (xs.set j v)) := by
  show (match M[n]? with
    | some (.lst xs) => match ixN xs.length i with
      | some j => some (M.set n (.lst (xs.set j v)))
      | none => none
    | _ => none) = _
  rw [h]
  dsimp only
  cases ixN xs.length i <;> rfl
@[simp] theorem ev_sltup {lo hi : Option Int} : slO (.tup xs) lo hi M = some (.tup (cutD xs lo hi)) := nrfl rfl
@[simp] theorem ev_sllst {lo hi : Option Int} : slO (.lst xs) lo hi M = some (.lst (cutD xs lo hi)) := nrfl rfl
@[simp] theorem ev_slfl {lo hi : Option Int} : slO (.fl xs) lo hi M = some (.lst (cutD xs lo hi)) := nrfl rfl
@[simp] theorem ev_ivtup : ivO (.tup xs) M = some (.st xs) := nrfl rfl
@[simp] theorem ev_ivlst : ivO (.lst xs) M = some (.st xs) := nrfl rfl
@[simp] theorem ev_ivfl : ivO (.fl xs) M = some (.st xs) := nrfl rfl
@[simp] theorem ev_ivstr : ivO (.str z) M = some (.st (z.map fun c => .str [c])) := nrfl rfl
theorem ev_ivref (h : M[n]? = some (.lst xs)) : ivO (.ref n) M = some (.lv n) := by
  show (match M[n]? with
    | some (.lst _) => some (IV.lv n)
    | _ => none) = _
  rw [h]
@[simp] theorem ev_ivstup : ivsO (.tup xs) M = some (.st xs) := nrfl rfl
@[simp] theorem ev_ivslst : ivsO (.lst xs) M = some (.st xs) := nrfl rfl
@[simp] theorem ev_ivsstr : ivsO (.str z) M = some (.st (z.map fun c => .str [c])) := nrfl rfl
@[simp] theorem ev_pcnt : pairs .cnt (.st xs) = .st (xs.mapIdx fun i d => .tup [.int i, d]) := nrfl rfl
@[simp] theorem ev_pst : pairs (.st xs) (.st ys) = .st (List.zipWith (fun x y => .tup [x, y]) xs ys) := nrfl rfl
@[simp] theorem ev_addtup : dAdd (.tup xs) (.tup ys) M = if xs.length + ys.length ≤ 16777216 then .ok (.tup (xs ++ ys)) M else .bad := nrfl rfl
@[simp] theorem ev_addlst : dAdd (.lst xs) (.lst ys) M = if xs.length + ys.length ≤ 16777216 then .ok (.lst (xs ++ ys)) M else .bad := nrfl rfl
@[simp] theorem ev_tymlst : tyM (.lst xs) M = some "list" := nrfl rfl
@[simp] theorem ev_tymstr : tyM (.str z) M = some "str" := nrfl rfl
theorem ev_tymref (h : M[n]? = some (.lst xs)) : tyM (.ref n) M = some "list" := by
  unfold tyM
  simp only [h]
theorem ev_append (h : M[n]? = some (.lst xs)) (hl : xs.length < 16777216) : mAppend (.ref n) [d] M = .ok .non (M.set n (.lst (xs ++ [d]))) := by
  show (match M[n]? with
    | some (.lst xs) => if xs.length < 16777216 then Out.ok D.non (M.set n (.lst (xs ++ [d]))) else .bad
    | _ => .bad) = _
  rw [h]
  dsimp only
  rw [if_pos hl]
theorem ixN_nat {k : Nat} (h : k < n) : ixN n (k : Int) = some k := by
  unfold ixN
  rw [if_pos (by omega), if_pos (by omega)]
  simp
theorem atI_at {α : Type} {ws : List α} {k : Nat} {w : α} (h : ws[k]? = some w) : atI ws (k : Int) = some w := by
  unfold atI
  rw [ixN_nat (List.getElem?_eq_some_iff.mp h).1]
  exact h
theorem pop_ix {k m : Nat} (hlt : k < m) (hl : m ≤ 16777216) : (if -(2 ^ 63) ≤ (k : Int) ∧ (k : Int) < 2 ^ 63 then seqIndex? (k : Int) m else none) = some k := by
  have h1 : -(2 ^ 63) ≤ (k : Int) := by omega
  have h2 : (k : Int) < 2 ^ 63 := by omega
  rw [if_pos ⟨h1, h2⟩]
  exact (ixN_seq (ixN_nat hlt)).1
theorem pop_eq {M : Mem} {n : Nat} {i : Int} {xs : List D} (h : M[n]? = some (.lst xs)) : mPop (.ref n) [.int i] M = match (if -(2 ^ 63) ≤ i ∧ i < 2 ^ 63 then seqIndex? i xs.length else none) with
      | some k => match xs[k]? with
        | some y => .ok y (M.set n (.lst (xs.eraseIdx k)))
        | none => .bad
      | none => .bad := by
  unfold mPop
  simp only [h]
  all_goals
    generalize (if -(2 ^ 63) ≤ i ∧ i < 2 ^ 63 then seqIndex? i xs.length else none) = o
    cases o with
    | none => rfl
    | some k =>
      dsimp only
      cases xs[k]? <;> rfl
theorem ev_pop {k : Nat} (h : M[n]? = some (.lst xs)) (hk : xs[k]? = some d) (hl : xs.length ≤ 16777216) : mPop (.ref n) [.int k] M = .ok d (M.set n (.lst (xs.eraseIdx k))) := by
  have hlt := (List.getElem?_eq_some_iff.mp hk).1
  rw [pop_eq h, pop_ix hlt hl]
  dsimp only
  rw [hk]
theorem blsO_true : ∀ {xs : List D}, (∀ x ∈ xs, x = .bl true) → ∃ bs, blsO xs = some bs ∧ bs.all id = true
  | [], _ => ⟨[], rfl, rfl⟩
  | x :: xs, h => by
    obtain ⟨bs, e, a⟩ := blsO_true fun y hy => h y (List.mem_cons_of_mem _ hy)
    have := h x (List.mem_cons_self ..)
    subst this
    exact ⟨true :: bs, by unfold blsO; rw [e], by simpa using a⟩
theorem all_true (h : ∀ x ∈ xs, x = .bl true) : cAll [.lst xs] M = some (.bl true) := by
  obtain ⟨bs, e, a⟩ := blsO_true h
  show (match blsO xs with
      | some bs => some (D.bl (bs.all id))
      | none => none) = _
  rw [e]
  dsimp only
  rw [a]
theorem mulOk_l (h : -(2 ^ 64) < i ∧ i < 2 ^ 64) : mulOk i j = true := by
  unfold mulOk
  rw [decide_eq_true h.1, decide_eq_true h.2]
  simp
theorem mulOk_r (h : -(2 ^ 64) < j ∧ j < 2 ^ 64) : mulOk i j = true := by
  unfold mulOk
  rw [decide_eq_true h.1, decide_eq_true h.2]
  simp
theorem rngL_get {lo : Int} {m k : Nat} {x : D} (h : (rngL lo m)[k]? = some x) : k < m ∧ x = .int (lo + k) := by
  unfold rngL at h
  rw [List.getElem?_map] at h
  cases q : (List.range m)[k]? with
  | none => rw [q] at h; cases h
  | some r =>
    rw [q] at h
    have := List.getElem?_eq_some_iff.mp q
    obtain ⟨h1, h2⟩ := this
    simp at h1 h2
    subst h2
    cases h
    exact ⟨h1, rfl⟩
theorem rngL_mem {lo : Int} {m : Nat} {x : D} (h : x ∈ rngL lo m) : ∃ k, k < m ∧ x = .int (lo + (k : Nat)) := by
  obtain ⟨k, hk⟩ := List.getElem?_of_mem h
  exact ⟨k, rngL_get hk⟩
@[simp] theorem rngL_len {lo : Int} {m : Nat} : (rngL lo m).length = m := by unfold rngL; simp
theorem small_ok (h : -(2 ^ 62) ≤ i ∧ i < 2 ^ 62) : small62 i = true := by
  unfold small62; rw [decide_eq_true h.1, decide_eq_true h.2]; rfl
theorem rg_ok (h1 : -1000000 ≤ i ∧ i ≤ 10000000) (h2 : -1000000 ≤ j ∧ j ≤ 10000000) : rgOk i j = true := by
  unfold rgOk
  rw [small_ok (by omega), small_ok (by omega), decide_eq_true (by omega)]; rfl
theorem log_ok (h0 : 0 < j) (h1 : j < 4611686018427387904) : j.natAbs.log2 < 9000 := by
  have h : j.natAbs < 2 ^ 62 := by omega
  have : j.natAbs.log2 < 62 := (Nat.log2_lt (by omega)).mpr h
  omega
theorem div_ok (h0 : 0 < j) (h1 : j < 4611686018427387904) : dDiv (.int i) (.int j) M = .ok (.int (i / j)) M := by
  rw [ev_divint, if_pos ⟨h0, log_ok h0 h1⟩]
theorem log64 : Nat.log2 64 < 9000 := by decide
end
/-- what a call leaves of a longer memory -/
theorem gc_more {d : D} {M M1 M' : Mem} {n : Nat} (hn : n = M1.length) (h : Mp M1 = true) (hd : d.pure = true) : gc n d (M1 ++ M') = M1 := by
  subst hn; exact gc_app h hd
theorem mp_setB {M : Mem} {n : Nat} {o : MO} (h : Mp M = true) (ho : o.low M.length = true) : Mp (M.set n o) = true := by
  unfold Mp at *
  rw [List.all_eq_true] at *
  intro x hx
  rw [List.length_set]
  rcases List.mem_or_eq_of_mem_set hx with hx | rfl
  · exact h x hx
  · exact ho
theorem mp_set {M : Mem} {n : Nat} {o : MO} (h : Mp M = true) (ho : o.pure = true) : Mp (M.set n o) = true := mp_setB h (MO.pure_low ho)
theorem mp_appB {M M' : Mem} (h : Mp M = true) (h' : M'.all (MO.low (M.length + M'.length)) = true) : Mp (M ++ M') = true := by
  unfold Mp at *
  rw [List.all_append, List.length_append, h', Bool.and_true]
  rw [List.all_eq_true] at *
  exact fun o ho => MO.low_mono (Nat.le_add_right _ _) (h o ho)
theorem mp_app {M M' : Mem} (h : Mp M = true) (h' : M'.all MO.pure = true) : Mp (M ++ M') = true := mp_appB h (by
  rw [List.all_eq_true] at *
  exact fun o ho => MO.pure_low (h' o ho))
theorem mp_one {M : Mem} {o : MO} (h : Mp M = true) (ho : o.pure = true) : Mp (M ++ [o]) = true := mp_app h (by rw [List.all_cons, ho]; rfl)
theorem get_app {M M' : Mem} {n : Nat} (h : n < M.length) : (M ++ M')[n]? = M[n]? := List.getElem?_append_left h
theorem set_app {M M' : Mem} {n : Nat} {o : MO} (h : n < M.length) : (M ++ M').set n o = M.set n o ++ M' := List.set_append_left _ _ h
theorem perm_erase {α : Type} : ∀ {l : List α} {k : Nat} (h : k < l.length), List.Perm (l[k] :: l.eraseIdx k) l
  | [], _, h => by simp at h
  | x :: l, 0, _ => .refl _
  | x :: l, k + 1, h => by
    have ih := perm_erase (l := l) (k := k) (by simpa using h)
    rw [List.getElem_cons_succ, List.eraseIdx_cons_succ]
    exact (List.Perm.swap _ _ _).trans (.cons _ ih)
theorem pures_of : ∀ {ds : List D}, (∀ d ∈ ds, d.pure = true) → D.pures ds = true
  | [], _ => by unfold D.pures; rfl
  | d :: ds, h => by
    unfold D.pures
    rw [h d (List.mem_cons_self ..), pures_of fun x hx => h x (List.mem_cons_of_mem _ hx)]
    rfl
theorem pure_tup {ds : List D} (h : ∀ d ∈ ds, d.pure = true) : (D.tup ds).pure = true := by
  unfold D.pure; exact pures_of h
theorem pure_int {i : Int} : (D.int i).pure = true := by unfold D.pure; rfl
theorem for_keep {g : SG} {b : SS} (I : SD → Mem → Prop) : ∀ (xs : List D) (σ : SD) (M : Mem), I σ M → (∀ x ∈ xs, ∀ σ M, I σ M → ∃ σ1 M1 σ2 M2, g x σ M = .ok σ1 M1 ∧ b σ1 M1 = .ok (.nx σ2) M2 ∧ I σ2 M2) →
    ∃ σ' M', forL g b xs σ M = .ok (.nx σ') M' ∧ I σ' M'
  | [], σ, M, h, _ => ⟨σ, M, rfl, h⟩
  | x :: xs, σ, M, h, hb => by
    obtain ⟨σ1, M1, σ2, M2, h1, h2, h3⟩ := hb x (List.mem_cons_self ..) σ M h
    obtain ⟨σ', M', h4, h5⟩ := for_keep I xs σ2 M2 h3 fun y hy => hb y (List.mem_cons_of_mem _ hy)
    exact ⟨σ', M', by rw [forL_cons, h1, ev_bind, h2, ev_bind]; exact h4, h5⟩
theorem cut_from {α : Type} (xs : List α) (p : Nat) : cutD xs (some (p : Int)) none = xs.drop p := by
  unfold cutD
  rw [show HT.sIx xs.length 0 (some (p : Int)) = min p xs.length from HT.sIx_nat xs.length 0 p, HT.sIx_none]
  by_cases h : p ≤ xs.length
  · rw [Nat.min_eq_left h, List.take_of_length_le]
    rw [List.length_drop]; exact Nat.le_refl _
  · rw [Nat.min_eq_right (by omega), List.drop_length, List.drop_of_length_le (by omega)]; simp
theorem cut_to {α : Type} (xs : List α) (p : Nat) : cutD xs none (some (p : Int)) = xs.take p := by
  unfold cutD
  rw [show HT.sIx xs.length xs.length (some (p : Int)) = min p xs.length from HT.sIx_nat xs.length xs.length p, HT.sIx_none]
  simp only [Nat.sub_zero, List.drop_zero]
  by_cases h : p ≤ xs.length
  · rw [Nat.min_eq_left h]
  · rw [Nat.min_eq_right (by omega), List.take_of_length_le (Nat.le_refl _), List.take_of_length_le (by omega)]
open Classical in
theorem in_yes {n : Nat} (hn : n + 1 ≤ 60) {d : D} {xs : List D} {M : Mem} (h : pl n d = true) (h' : xs.all (pl n) = true) (hm : d ∈ xs) : inO d (.tup xs) M = some true := by
  rw [inO_pl hn h h', decide_eq_true hm]
open Classical in
theorem in_no {n : Nat} (hn : n + 1 ≤ 60) {d : D} {xs : List D} {M : Mem} (h : pl n d = true) (h' : xs.all (pl n) = true) (hm : d ∉ xs) : inO d (.tup xs) M = some false := by
  rw [inO_pl hn h h', decide_eq_false hm]
open Classical in
theorem eq_yes {n : Nat} (hn : n ≤ 60) {d : D} {M : Mem} (h : pl n d = true) : eqO d d M = some true := by
  rw [eqO_pl hn h h, decide_eq_true rfl]
open Classical in
theorem eq_no {n : Nat} (hn : n ≤ 60) {d e : D} {M : Mem} (h : pl n d = true) (h' : pl n e = true) (hne : d ≠ e) : eqO d e M = some false := by
  rw [eqO_pl hn h h', decide_eq_false hne]
/-- a comprehension over a numbered list that does not change meanwhile -/
theorem lc_mapG {k : Nat} {xs : List D} {g : SG} {t : SB} {e : SF} {σ : SD} {M : Mem} (hM : M[k]? = some (.lst xs)) (p : D → Bool) (f : D → D) (h : ∀ x ∈ xs, ∃ σ1, g x σ M = .ok σ1 M ∧ t σ1 M = .ok (p x) M ∧ (p x = true → e σ1 M = .ok (f x) M)) :
    ∀ (j i : Nat), i + j = xs.length → lcG (.lv k) g t e (j + 1) i σ M = .ok (((xs.drop i).filter p).map f) M
  | 0, i, hi => by
    have e1 : xs[i]? = none := List.getElem?_eq_none (by omega)
    have : xs.drop i = [] := List.drop_of_length_le (by omega)
    rw [this]
    unfold lcG ivAt
    simp only [hM, e1]
    rfl
  | j + 1, i, hi => by
    have hlt : i < xs.length := by omega
    have e1 : xs[i]? = some xs[i] := List.getElem?_eq_getElem hlt
    have ih := lc_mapG hM p f h j (i + 1) (by omega)
    obtain ⟨σ1, h1, h2, h3⟩ := h xs[i] (List.getElem_mem hlt)
    have ea : ivAt (.lv k) i M = some (some xs[i]) := by
      unfold ivAt
      simp only [hM, e1]
    rw [List.drop_eq_getElem_cons hlt]
    show lcG (.lv k) g t e (j + 1 + 1) i σ M = _
    rw [lcG]
    simp only [ea, h1, ev_bind, h2]
    cases q : p xs[i] with
    | false =>
      simp only [ih]
      rw [List.filter_cons_of_neg (by rw [q]; exact Bool.false_ne_true)]
    | true =>
      simp only [h3 q, ev_bind, ih]
      rw [List.filter_cons_of_pos q]; rfl
theorem lc_live {k : Nat} {xs : List D} {g : SG} {t : SB} {e : SF} {σ : SD} {M : Mem} (hM : M[k]? = some (.lst xs)) (p : D → Bool) (f : D → D) (h : ∀ x ∈ xs, ∃ σ1, g x σ M = .ok σ1 M ∧ t σ1 M = .ok (p x) M ∧ (p x = true → e σ1 M = .ok (f x) M)) :
    ivLen (.lv k) M = xs.length ∧ lcRun (.lv k) g t e σ M = .ok ((xs.filter p).map f) M := by
  have hl : ivLen (.lv k) M = xs.length := by
    unfold ivLen
    simp only [hM]
  refine ⟨hl, ?_⟩
  show lcG (.lv k) g t e (ivLen (.lv k) M + 1) 0 σ M = _
  rw [hl]
  exact lc_mapG hM p f h xs.length 0 (by omega)
end KP

/-! what ends well -/
namespace KP
open PySem PySem.Spec PyProof.Rows L2
section
variable {α β : Type} {M : Mem}
/-- x ends, and Q is so then -/
def Ev (x : Out α) (Q : α → Mem → Prop) : Prop := ∃ a M, x = .ok a M ∧ Q a M
@[simp] theorem Ev_ok {a : α} {Q : α → Mem → Prop} : Ev (.ok a M) Q ↔ Q a M := by
  constructor
  · rintro ⟨a', M', e, h⟩; cases e; exact h
  · intro h; exact ⟨a, M, rfl, h⟩
@[simp] theorem Ev_bad {Q : α → Mem → Prop} : Ev (.bad : Out α) Q ↔ False := ⟨(fun ⟨_, _, e, _⟩ => nomatch e), False.elim⟩
theorem Ev.imp {x : Out α} {P Q : α → Mem → Prop} (h : Ev x P) (hi : ∀ a M, P a M → Q a M) : Ev x Q := by
  obtain ⟨a, M, e, p⟩ := h
  exact ⟨a, M, e, hi a M p⟩
/-- what follows, kept from simp -/
def K (f : α → Mem → Out β) (Q : β → Mem → Prop) (_ : Tag (fun (_ : Unit) => (f, Q))) : α → Mem → Prop := fun a M => Ev (f a M) Q
@[simp ↓] theorem Ev_to {x : Out α} {f : α → Mem → Out β} {t : Tag f} {Q : β → Mem → Prop} : Ev (bnd x f t) Q ↔ Ev x (K f Q ⟨⟩) := by
  constructor
  · rintro ⟨b, M2, e, q⟩
    cases x with
    | ok a M1 => exact ⟨a, M1, rfl, b, M2, e, q⟩
    | exc n fs M1 => cases e
    | bad => cases e
  · rintro ⟨a, M1, rfl, h⟩
    exact h
@[simp ↓] theorem Ev_bindto {x : Out α} {f : α → Mem → Out β} {Q : β → Mem → Prop} : Ev (x.bind f) Q ↔ Ev x (K f Q ⟨⟩) := Ev_to (t := ⟨⟩)
@[simp] theorem K_def {f : α → Mem → Out β} {Q : β → Mem → Prop} {t} {a : α} : K f Q t a M ↔ Ev (f a M) Q := Iff.of_eq (nrfl rfl)
theorem Ev.k {x : Out α} {f : α → Mem → Out β} {P : α → Mem → Prop} {Q : β → Mem → Prop} {t} (h : Ev x P) (hi : ∀ a M, P a M → Ev (f a M) Q) : Ev x (K f Q t) := h.imp hi
@[simp] theorem Ev_nox {x : Out α} {Q : α → Mem → Prop} : Ev x.nox Q ↔ Ev x Q := by
  cases x with
  | ok a M => exact Iff.rfl
  | exc n fs M => exact ⟨(fun ⟨_, _, e, _⟩ => nomatch e), (fun ⟨_, _, e, _⟩ => nomatch e)⟩
  | bad => exact Iff.rfl
theorem Ev.bnd {x : Out α} {f : α → Mem → Out β} {t : Tag f} {P : α → Mem → Prop} {Q : β → Mem → Prop} (h : Ev x P) (hi : ∀ a M, P a M → Ev (f a M) Q) : Ev (bnd x f t) Q := by
  obtain ⟨a, M, rfl, p⟩ := h
  exact hi a M p
theorem Ev.bnd' {x : Out α} {f : α → Mem → Out β} {t : Tag f} {Q : β → Mem → Prop} (h : Ev x fun a M => Ev (f a M) Q) : Ev (KP.bnd x f t) Q := Ev.bnd h fun _ _ h => h
theorem Ev.bnde {x : Out α} {f : α → Mem → Out β} {t : Tag f} {Q : β → Mem → Prop} {a : α} {M : Mem} (e : x = .ok a M) (hi : Ev (f a M) Q) : Ev (KP.bnd x f t) Q := by
  subst e; exact hi
theorem Ev.opt {o : Option α} {f : α → Out β} {t : Tag f} {Q : β → Mem → Prop} {a : α} (e : o = some a) (hi : Ev (f a) Q) : Ev (optB o f t) Q := by
  subst e; exact hi
theorem Ev.ite {c : Prop} [Decidable c] {x y : Out α} {Q : α → Mem → Prop} (h1 : c → Ev x Q) (h2 : ¬ c → Ev y Q) : Ev (if c then x else y) Q := by
  split
  · exact h1 ‹_›
  · exact h2 ‹_›
theorem Ev.pos {c : Prop} [Decidable c] {x y : Out α} {Q : α → Mem → Prop} (hc : c) (h1 : Ev x Q) : Ev (if c then x else y) Q := by
  rw [if_pos hc]; exact h1
theorem Ev.neg {c : Prop} [Decidable c] {x y : Out α} {Q : α → Mem → Prop} (hc : ¬ c) (h1 : Ev y Q) : Ev (if c then x else y) Q := by
  rw [if_neg hc]; exact h1
end
theorem Ev.hide {α : Type} {x : Out α} {P : α → Mem → Prop} (h : ∀ Q : α → Mem → Prop, (∀ a M, P a M → Q a M) → Ev x Q) : Ev x P := h P fun _ _ h => h
/-- one turn of a loop -/
def turn (g : SG) (b : SS) (x : D) (σ : SD) (M : Mem) : Out Fl := (g x σ M).bind fun σ1 M1 => b σ1 M1
@[simp] theorem ev_turn {g : SG} {b : SS} {x : D} {σ : SD} {M : Mem} : turn g b x σ M = (g x σ M).bind fun σ1 M1 => b σ1 M1 := nrfl rfl
theorem forL_turn {g : SG} {b : SS} {x : D} {xs : List D} {σ : SD} {M : Mem} : forL g b (x :: xs) σ M = (turn g b x σ M).bind fun fl M2 => match fl with
      | .nx σ2 => forL g b xs σ2 M2
      | .ct σ2 => forL g b xs σ2 M2
      | .bk σ2 => .ok (.nx σ2) M2
      | .rt d => .ok (.rt d) M2 := by
  rw [forL_cons, turn]
  cases g x σ M with
  | ok a M1 => rfl
  | exc n fs M1 => rfl
  | bad => rfl
/-- a loop that goes on to its end -/
theorem Ev.for {g : SG} {b : SS} {Q : Fl → Mem → Prop} {xs : List D} {σ : SD} {M : Mem} (I : List D → List D → SD → Mem → Prop) (hs : ∀ done x rest σ M, I done (x :: rest) σ M → ∀ Q2 : Fl → Mem → Prop, (∀ σ2 M2, I (done ++ [x]) rest σ2 M2 → Q2 (.nx σ2) M2) → (∀ σ2 M2, I (done ++ [x]) rest σ2 M2 → Q2 (.ct σ2) M2) → (∀ σ2 M2, Q (.nx σ2) M2 → Q2 (.bk σ2) M2) → (∀ d M2, Q (.rt d) M2 → Q2 (.rt d) M2) → Ev (turn g b x σ M) Q2)
    (h0 : I [] xs σ M) (hq : ∀ σ M, I xs [] σ M → Q (.nx σ) M) : Ev (forL g b xs σ M) Q := by
  suffices H : ∀ (xs done : List D) (σ : SD) (M : Mem), I done xs σ M → (∀ σ M, I (done ++ xs) [] σ M → Q (.nx σ) M) → Ev (forL g b xs σ M) Q from H xs [] σ M h0 (by simpa using hq)
  intro xs
  induction xs with
  | nil => intro done σ M h hq; exact ⟨_, _, rfl, hq σ M (by simpa using h)⟩
  | cons x xs ih =>
    intro done σ M h hq
    obtain ⟨fl, M2, e2, h2⟩ := hs done x xs σ M h (fun fl M2 => match fl with
      | .nx σ2 => I (done ++ [x]) xs σ2 M2
      | .ct σ2 => I (done ++ [x]) xs σ2 M2
      | .bk σ2 => Q (.nx σ2) M2
      | .rt d => Q (.rt d) M2) (fun _ _ h => h) (fun _ _ h => h) (fun _ _ h => h) (fun _ _ h => h)
    rw [forL_turn, e2, ev_bind]
    cases fl with
    | nx σ2 => exact ih _ _ _ h2 (fun σ M h => hq σ M (by simpa using h))
    | ct σ2 => exact ih _ _ _ h2 (fun σ M h => hq σ M (by simpa using h))
    | bk σ2 => exact ⟨_, _, rfl, h2⟩
    | rt d => exact ⟨_, _, rfl, h2⟩
/-- the same, the walk left out -/
theorem Ev.loop {g : SG} {b : SS} {Q : Fl → Mem → Prop} {xs : List D} {σ : SD} {M : Mem} (I : SD → Mem → Prop) (hs : ∀ x ∈ xs, ∀ σ M, I σ M → ∀ Q2 : Fl → Mem → Prop, (∀ σ2 M2, I σ2 M2 → Q2 (.nx σ2) M2) → (∀ σ2 M2, I σ2 M2 → Q2 (.ct σ2) M2) → (∀ σ2 M2, Q (.nx σ2) M2 → Q2 (.bk σ2) M2) → (∀ d M2, Q (.rt d) M2 → Q2 (.rt d) M2) → Ev (turn g b x σ M) Q2)
    (h0 : I σ M) (hq : ∀ σ M, I σ M → Q (.nx σ) M) : Ev (forL g b xs σ M) Q := by
  refine Ev.for (fun done rest σ M => done ++ rest = xs ∧ I σ M) ?_ ⟨rfl, h0⟩ fun σ M h => hq σ M h.2
  intro done x rest σ M ⟨e, h⟩ Q2 h1 h2 h3 h4
  exact hs x (by rw [← e]; simp) σ M h Q2 (fun σ2 M2 h => h1 σ2 M2 ⟨by simpa using e, h⟩) (fun σ2 M2 h => h2 σ2 M2 ⟨by simpa using e, h⟩) h3 h4
/-- one turn of a while -/
def wturn (c : SB) (b : SS) (σ : SD) (M : Mem) : Out (Option Fl) := (c σ M).bind fun k M1 => if k = true then (b σ M1).bind fun fl M2 => .ok (some fl) M2 else .ok none M1
@[simp] theorem ev_wturn {c : SB} {b : SS} {σ : SD} {M : Mem} : wturn c b σ M = (c σ M).bind fun k M1 => if k = true then (b σ M1).bind fun fl M2 => .ok (some fl) M2 else .ok none M1 := nrfl rfl
theorem while_turn {c : SB} {b : SS} {n : Nat} {σ : SD} {M : Mem} : sWhileN c b (n + 1) σ M = (wturn c b σ M).bind fun o M2 => match o with
      | none => .ok (.nx σ) M2
      | some (.nx σ2) => sWhileN c b n σ2 M2
      | some (.ct σ2) => sWhileN c b n σ2 M2
      | some (.bk σ2) => .ok (.nx σ2) M2
      | some (.rt d) => .ok (.rt d) M2 := by
  show (c σ M).bind _ = _
  rw [wturn]
  cases c σ M with
  | exc n fs M1 => rfl
  | bad => rfl
  | ok k M1 =>
    cases k with
    | false => rfl
    | true =>
      rw [ev_bind, ev_bind, if_pos rfl]
      show (b σ M1).bind _ = _
      cases b σ M1 with
      | exc n fs M1 => rfl
      | bad => rfl
      | ok fl M2 => cases fl <;> rfl
theorem Ev.while {c : SB} {b : SS} {Q : Fl → Mem → Prop} {n m : Nat} {σ : SD} {M : Mem} (I : Nat → SD → Mem → Prop) (hs : ∀ m σ M, I m σ M → ∀ Q2 : Option Fl → Mem → Prop, (∀ M2, Q (.nx σ) M2 → Q2 none M2) → (∀ m2 σ2 M2, m2 < m → I m2 σ2 M2 → Q2 (some (.nx σ2)) M2) → (∀ m2 σ2 M2, m2 < m → I m2 σ2 M2 → Q2 (some (.ct σ2)) M2) → (∀ σ2 M2, Q (.nx σ2) M2 → Q2 (some (.bk σ2)) M2) → (∀ d M2, Q (.rt d) M2 → Q2 (some (.rt d)) M2) → Ev (wturn c b σ M) Q2)
    (hm : m < n) (h0 : I m σ M) : Ev (sWhileN c b n σ M) Q := by
  suffices H : ∀ (n m : Nat) (σ : SD) (M : Mem), m < n → I m σ M → Ev (sWhileN c b n σ M) Q from H n m σ M hm h0
  intro n
  induction n with
  | zero => intro m σ M h; omega
  | succ n ih =>
    intro m σ M hm h
    obtain ⟨o, M2, e, h2⟩ := hs m σ M h (fun o M2 => match o with
      | none => Q (.nx σ) M2
      | some (.nx σ2) => ∃ m2, m2 < m ∧ I m2 σ2 M2
      | some (.ct σ2) => ∃ m2, m2 < m ∧ I m2 σ2 M2
      | some (.bk σ2) => Q (.nx σ2) M2
      | some (.rt d) => Q (.rt d) M2) (fun _ h => h) (fun m2 _ _ h1 h => ⟨m2, h1, h⟩) (fun m2 _ _ h1 h => ⟨m2, h1, h⟩) (fun _ _ h => h) (fun _ _ h => h)
    rw [while_turn, e, ev_bind]
    cases o with
    | none => exact ⟨_, _, rfl, h2⟩
    | some fl => cases fl with
      | nx σ2 => obtain ⟨m', hm', h2⟩ := h2; exact ih m' σ2 M2 (by omega) h2
      | ct σ2 => obtain ⟨m', hm', h2⟩ := h2; exact ih m' σ2 M2 (by omega) h2
      | bk σ2 => exact ⟨_, _, rfl, h2⟩
      | rt d => exact ⟨_, _, rfl, h2⟩
/-- one turn of a comprehension -/
def cturn (g : SG) (t : SB) (e : SF) (x : D) (σ : SD) (M : Mem) : Out (Option D) := (g x σ M).bind fun σ1 M1 => (t σ1 M1).bind fun b M2 => if b = true then (e σ1 M2).bind fun y M3 => .ok (some y) M3 else .ok none M2
@[simp] theorem ev_cturn {g : SG} {t : SB} {e : SF} {x : D} {σ : SD} {M : Mem} : cturn g t e x σ M = (g x σ M).bind fun σ1 M1 => (t σ1 M1).bind fun b M2 => if b = true then (e σ1 M2).bind fun y M3 => .ok (some y) M3 else .ok none M2 := nrfl rfl
theorem cturn_some {g : SG} {t : SB} {e : SF} {x : D} {σ : SD} {M M3 : Mem} {y : D} (h : cturn g t e x σ M = .ok (some y) M3) : ∃ σ1 M1 M2, g x σ M = .ok σ1 M1 ∧ t σ1 M1 = .ok true M2 ∧ e σ1 M2 = .ok y M3 := by
  unfold cturn at h
  cases h1 : g x σ M with
  | exc n fs M1 => rw [h1] at h; cases h
  | bad => rw [h1] at h; cases h
  | ok σ1 M1 =>
    rw [h1, ev_bind] at h
    cases h2 : t σ1 M1 with
    | exc n fs M1 => rw [h2] at h; cases h
    | bad => rw [h2] at h; cases h
    | ok b M2 =>
      rw [h2, ev_bind] at h
      cases b with
      | false => cases h
      | true =>
        rw [if_pos rfl] at h
        cases h3 : e σ1 M2 with
        | exc n fs M1 => rw [h3] at h; cases h
        | bad => rw [h3] at h; cases h
        | ok y M4 => rw [h3, ev_bind] at h; cases h; exact ⟨σ1, M1, M2, rfl, h2, h3⟩
theorem cturn_none {g : SG} {t : SB} {e : SF} {x : D} {σ : SD} {M M3 : Mem} (h : cturn g t e x σ M = .ok none M3) : ∃ σ1 M1, g x σ M = .ok σ1 M1 ∧ t σ1 M1 = .ok false M3 := by
  unfold cturn at h
  cases h1 : g x σ M with
  | exc n fs M1 => rw [h1] at h; cases h
  | bad => rw [h1] at h; cases h
  | ok σ1 M1 =>
    rw [h1, ev_bind] at h
    cases h2 : t σ1 M1 with
    | exc n fs M1 => rw [h2] at h; cases h
    | bad => rw [h2] at h; cases h
    | ok b M2 =>
      rw [h2, ev_bind] at h
      cases b with
      | false => cases h; exact ⟨σ1, M1, rfl, h2⟩
      | true =>
        rw [if_pos rfl] at h
        cases h3 : e σ1 M2 with
        | exc n fs M1 => rw [h3] at h; cases h
        | bad => rw [h3] at h; cases h
        | ok y M4 => rw [h3, ev_bind] at h; cases h
theorem Ev.lc {g : SG} {t : SB} {e : SF} {σ : SD} {Q : List D → Mem → Prop} {xs : List D} {M : Mem} (I : List D → List D → Mem → Prop) (hs : ∀ x rest acc M, I (x :: rest) acc M → ∀ Q2 : Option D → Mem → Prop, (∀ y M2, I rest (acc ++ [y]) M2 → Q2 (some y) M2) → (∀ M2, I rest acc M2 → Q2 none M2) → Ev (cturn g t e x σ M) Q2)
    (h0 : I xs [] M) (hq : ∀ ys M, I [] ys M → Q ys M) : Ev (lcL g t e xs σ M) Q := by
  suffices H : ∀ (xs acc : List D) (M : Mem), I xs acc M → Ev (lcL g t e xs σ M) fun ys M => I [] (acc ++ ys) M from (H xs [] M h0).imp hq
  intro xs
  induction xs with
  | nil => intro acc M h; exact ⟨_, _, rfl, by simpa using h⟩
  | cons x xs ih =>
    intro acc M h
    obtain ⟨o, M3, e3, h3⟩ := hs x xs acc M h (fun o M2 => match o with
      | some y => I xs (acc ++ [y]) M2
      | none => I xs acc M2) (fun _ _ h => h) (fun _ h => h)
    cases o with
    | none =>
      obtain ⟨σ1, M1, e1, e2⟩ := cturn_none e3
      rw [lcL_cons, e1, ev_bind, e2, ev_bind, if_neg (by simp)]
      exact ih acc M3 h3
    | some y =>
      obtain ⟨σ1, M1, M2, e1, e2, e4⟩ := cturn_some e3
      rw [lcL_cons, e1, ev_bind, e2, ev_bind, if_pos rfl, e4, ev_bind]
      obtain ⟨ys, M4, e5, h5⟩ := ih (acc ++ [y]) M3 h3
      rw [e5, ev_bind]
      exact ⟨_, _, rfl, by simpa using h5⟩
end KP

/-! list comprehensions that make a list of their own, over a list that stands -/
namespace KP
open PySem PySem.Spec PyProof.Rows L2
theorem lcN_0 {iv : IV} {g : SG} {t : SB} {e : SF} {n i : Nat} {σ : SD} {M : Mem} : lcN iv g t e n 0 i σ M = .bad := rfl
theorem lcN_s {iv : IV} {g : SG} {t : SB} {e : SF} {n k i : Nat} {σ : SD} {M : Mem} : lcN iv g t e n (k + 1) i σ M = match ivAt iv i M with
    | none => .bad
    | some none => .ok () M
    | some (some x) => (g x σ M).bind fun σ1 M1 => (t σ1 M1).bind fun b M2 => match b with
      | true => (e σ1 M2).bind fun y M3 => match M3[n]? with
        | some (.lst acc) => if acc.length < 16777216 then lcN iv g t e n k (i + 1) σ (M3.set n (.lst (acc ++ [y]))) else .bad
        | _ => .bad
      | false => lcN iv g t e n k (i + 1) σ M2 := rfl
/-- I: what is so in the memory while the items are the same; the list in the making stands at n -/
theorem Ev.lcN {iv : IV} {g : SG} {t : SB} {e : SF} {n : Nat} {σ : SD} {ys : List D} (I : List D → List D → Mem → Prop)
    (hat : ∀ i rest acc M, I rest acc M → i + rest.length = ys.length → ys.drop i = rest → ivAt iv i M = some rest.head?)
    (hs : ∀ x rest acc M, I (x :: rest) acc M → ∀ Q2 : Option D → Mem → Prop, (∀ y M2, M2[n]? = some (.lst acc) → acc.length < 16777216 → I rest (acc ++ [y]) (M2.set n (.lst (acc ++ [y]))) → Q2 (some y) M2) → (∀ M2, I rest acc M2 → Q2 none M2) → Ev (cturn g t e x σ M) Q2) :
    ∀ (rest : List D) (i k : Nat) (acc : List D) (M : Mem), i + rest.length = ys.length → ys.drop i = rest → rest.length < k → I rest acc M → Ev (KP.lcN iv g t e n k i σ M) fun _ M => ∃ acc', I [] acc' M := by
  intro rest
  induction rest with
  | nil =>
    intro i k acc M hl hd hk h
    obtain ⟨k, rfl⟩ : ∃ j, k = j + 1 := ⟨k - 1, by simp at hk; omega⟩
    rw [lcN_s, hat i _ _ _ h hl hd]
    exact ⟨_, _, rfl, acc, h⟩
  | cons x rest ih =>
    intro i k acc M hl hd hk h
    obtain ⟨k, rfl⟩ : ∃ j, k = j + 1 := ⟨k - 1, by simp at hk; omega⟩
    have hd' : ys.drop (i + 1) = rest := by rw [← List.drop_drop, hd]; rfl
    have hl' : i + 1 + rest.length = ys.length := by rw [← hl, List.length_cons]; omega
    have hk' : rest.length < k := by simp at hk; omega
    rw [lcN_s, hat i _ _ _ h hl hd]
    obtain ⟨o, M3, e3, h3⟩ := hs x rest acc M h (fun o M2 => match o with
      | some y => M2[n]? = some (.lst acc) ∧ acc.length < 16777216 ∧ I rest (acc ++ [y]) (M2.set n (.lst (acc ++ [y])))
      | none => I rest acc M2) (fun _ _ h1 h2 h => ⟨h1, h2, h⟩) (fun _ h => h)
    show Ev ((g x σ M).bind _) _
    cases o with
    | none =>
      obtain ⟨σ1, M1, e1, e2⟩ := cturn_none e3
      rw [e1, ev_bind, e2, ev_bind]
      exact ih (i + 1) k acc M3 hl' hd' hk' h3
    | some y =>
      obtain ⟨σ1, M1, M2, e1, e2, e4⟩ := cturn_some e3
      obtain ⟨h4, h5, h6⟩ := h3
      rw [e1, ev_bind, e2, ev_bind]
      show Ev ((e σ1 M2).bind _) _
      rw [e4, ev_bind, h4]
      show Ev (if acc.length < 16777216 then _ else _) _
      rw [if_pos h5]
      exact ih (i + 1) k _ _ hl' hd' hk' h6
/-- over a list that stands in the memory -/
theorem Ev.lcNlv {g : SG} {t : SB} {e : SF} {n j m : Nat} {σ : SD} {ys acc : List D} {M : Mem} {Q : Unit → Mem → Prop} (I : List D → List D → Mem → Prop) (hj : ∀ rest acc M, I rest acc M → M[j]? = some (.lst ys))
    (hs : ∀ x rest acc M, I (x :: rest) acc M → ∀ Q2 : Option D → Mem → Prop, (∀ y M2, M2[n]? = some (.lst acc) → acc.length < 16777216 → I rest (acc ++ [y]) (M2.set n (.lst (acc ++ [y]))) → Q2 (some y) M2) → (∀ M2, I rest acc M2 → Q2 none M2) → Ev (cturn g t e x σ M) Q2)
    (h0 : I ys acc M) (hm : ys.length < m) (hq : ∀ acc M, I [] acc M → Q () M) : Ev (KP.lcN (.lv j) g t e n m 0 σ M) Q := by
  refine (Ev.lcN (ys := ys) I (fun i rest acc M h hl hd => ?_) hs ys 0 m acc M (by simp) (by simp) hm h0).imp fun _ M ⟨acc, h⟩ => hq acc M h
  have e := hj rest acc M h
  simp only [ivAt, e]
  rw [← hd, List.head?_drop]
end KP

/-! sorting, repr, equality of plain data -/
namespace KP
open PySem PySem.Spec PyProof.Rows L2
section
variable {M : Mem}
@[simp] theorem ev_eqSint {i j : Int} : dEqS (.int i) (.int j) M = .ok (.bl (decide (i = j))) M := ev_eqint
@[simp] theorem ev_neSint {i j : Int} : dNeS (.int i) (.int j) M = .ok (.bl (!decide (i = j))) M := ev_neint
@[simp] theorem ev_eqSstr {a b : List Nat} : dEqS (.str a) (.str b) M = .ok (.bl (decide (a = b))) M := nrfl rfl
@[simp] theorem ev_neSstr {a b : List Nat} : dNeS (.str a) (.str b) M = .ok (.bl (!decide (a = b))) M := nrfl rfl
end
@[simp] theorem ev_eqSbl {a b : Bool} {M : Mem} : dEqS (.bl a) (.bl b) M = .ok (.bl (decide (a = b))) M := by cases a <;> cases b <;> exact nrfl rfl
@[simp] theorem ev_neSbl {a b : Bool} {M : Mem} : dNeS (.bl a) (.bl b) M = .ok (.bl (!decide (a = b))) M := by cases a <;> cases b <;> exact nrfl rfl
open Classical in
theorem eqS_pl {n : Nat} (hn : n ≤ 60) {d e : D} {M : Mem} (h : pl n d = true) (h' : pl n e = true) : dEqS d e M = .ok (.bl (decide (d = e))) M := by
  have key : dEq d e M = .ok (.bl (decide (d = e))) M := by
    unfold dEq
    rw [ev_pure2, eqO_pl hn h h', ev_bO, ev_some]
  unfold dEqS
  split
  · rename_i a b
    by_cases q : a = b
    · subst q; simp
    · have : ¬ D.str a = D.str b := fun z => q (by injection z)
      rw [decide_eq_false q, decide_eq_false this]
  · exact key
open Classical in
theorem neS_pl {n : Nat} (hn : n ≤ 60) {d e : D} {M : Mem} (h : pl n d = true) (h' : pl n e = true) : dNeS d e M = .ok (.bl (!decide (d = e))) M := by
  have key : dNe d e M = .ok (.bl (!decide (d = e))) M := by
    unfold dNe
    rw [ev_pure2, eqO_pl hn h h', ev_nbO, ev_some]
  unfold dNeS
  split
  · rename_i a b
    by_cases q : a = b
    · subst q; simp
    · have : ¬ D.str a = D.str b := fun z => q (by injection z)
      rw [decide_eq_false q, decide_eq_false this]
  · exact key
theorem eqS_yes {n : Nat} (hn : n ≤ 60) {d : D} {M : Mem} (h : pl n d = true) : dEqS d d M = .ok (.bl true) M := by rw [eqS_pl hn h h]; simp
theorem eqS_no {n : Nat} (hn : n ≤ 60) {d e : D} {M : Mem} (h : pl n d = true) (h' : pl n e = true) (hd : d ≠ e) : dEqS d e M = .ok (.bl false) M := by rw [eqS_pl hn h h']; simp [hd]
theorem neS_no {n : Nat} (hn : n ≤ 60) {d : D} {M : Mem} (h : pl n d = true) : dNeS d d M = .ok (.bl false) M := by rw [neS_pl hn h h]; simp
theorem neS_yes {n : Nat} (hn : n ≤ 60) {d e : D} {M : Mem} (h : pl n d = true) (h' : pl n e = true) (hd : d ≠ e) : dNeS d e M = .ok (.bl true) M := by rw [neS_pl hn h h']; simp [hd]
/-! ### sorting -/
theorem sortedO_enc {α : Type} (f : α → D) (q : α → PyData) {L : List α} {M : Mem} (h1 : ∀ a, pdN M 60 (f a) = some (q a)) (hs : sortable (L.map q) = true) (le : α → α → Bool) (hle : ∀ a b, le a b = !PySem.W.dataLt (q b) (q a)) (hl : L.length ≤ 16777216) :
    sortedO (.lst (L.map f)) M = some ((isort le L).map f) := by
  have e1 : mapO (pdN M 60) (L.map f) = some (L.map q) := by
    have : ∀ L : List α, mapO (pdN M 60) (L.map f) = some (L.map q) := by
      intro L
      induction L with
      | nil => rfl
      | cons a L ih => rw [List.map_cons, mapO, h1 a, ih]; rfl
    exact this L
  unfold sortedO
  rw [ev_lstO]
  simp only [e1]
  rw [if_pos ⟨hs, by simpa using hl⟩]
  have e2 : (L.map f).zip (L.map q) = L.map fun a => (f a, q a) := by rw [List.zip_map']
  unfold sortD
  rw [e2, ← isort_map (r := le) (fun a => (f a, q a)) (fun a b => by rw [hle]; rfl), List.map_map]
  rfl
/-- rows of ints, place by place -/
def ilt : List Int → List Int → Bool
  | [], [] => false
  | [], _ :: _ => true
  | _ :: _, [] => false
  | a :: as, b :: bs => decide (a < b) || (!decide (b < a) && ilt as bs)
theorem ilt_toks : ∀ (a b : List Int), PyProof.Rows.lexLt itemOrd (PySem.W.keyToksAll (a.map .int)) (PySem.W.keyToksAll (b.map .int)) = ilt a b
  | [], [] => rfl
  | [], b :: bs => rfl
  | a :: as, [] => rfl
  | a :: as, b :: bs => by
    have ih := ilt_toks as bs
    show PyProof.Rows.lexLt itemOrd (.inl 1 :: .inl a :: PySem.W.keyToksAll (as.map .int)) (.inl 1 :: .inl b :: PySem.W.keyToksAll (bs.map .int)) = _
    rw [PyProof.Rows.lex_cons, PyProof.Rows.lex_cons, ih]
    rfl
def iD (l : List Int) : D := .tup (l.map .int)
theorem pd_iD (M : Mem) (l : List Int) : pdN M 60 (iD l) = some (.tuple (l.map .int)) := by
  have : ∀ l : List Int, mapO (pdN M 59) (l.map .int) = some (l.map .int) := by
    intro l
    induction l with
    | nil => rfl
    | cons a l ih => rw [List.map_cons, mapO, ih]; rfl
  show (match mapO (pdN M 59) (l.map .int) with
    | some ys => some (PyData.tuple ys)
    | none => none) = _
  rw [this]
theorem alike_ints : ∀ (a b : List Int), PySem.W.alikeAll (a.map .int) (b.map .int) = true
  | [], _ => by unfold PySem.W.alikeAll; rfl
  | _ :: _, [] => by unfold PySem.W.alikeAll; rfl
  | a :: as, b :: bs => by
    rw [List.map_cons, List.map_cons, PySem.W.alikeAll, alike_ints as bs]
    unfold PySem.W.alike; rfl
theorem can_ints : ∀ (a : List Int), PyData.canLayAll0 (a.map .int) = true
  | [] => by unfold PyData.canLayAll0; rfl
  | a :: as => by
    rw [List.map_cons, PyData.canLayAll0, can_ints as]
    unfold PyData.canLay0; rfl
theorem depth_ints : ∀ (a : List Int), PyData.depthAll (a.map .int) = 0
  | [] => by unfold PyData.depthAll; rfl
  | a :: as => by
    rw [List.map_cons, PyData.depthAll, depth_ints as]
    unfold PyData.depth; rfl
theorem sortable_iD {L : List (List Int)} (h : ∀ l ∈ L, l ≠ []) : sortable (L.map fun l => PyData.tuple (l.map .int)) = true := by
  unfold sortable
  simp only [Bool.and_eq_true, List.all_eq_true, Bool.or_eq_true, List.mem_map]
  refine ⟨⟨?_, .inl ?_⟩, ?_⟩
  · rintro p ⟨a, ha, rfl⟩ q ⟨b, hb, rfl⟩
    unfold PySem.W.alike
    exact alike_ints a b
  · rintro p ⟨a, ha, rfl⟩
    cases a with
    | nil => exact absurd rfl (h _ ha)
    | cons x xs => rfl
  · rintro p ⟨a, ha, rfl⟩
    unfold SeqAt.shaped
    simp only [PyData.canLay0, PyData.depth, can_ints, depth_ints]
    decide
theorem ilt_hand : ∀ (a b : List Int), HT.lexLt a b = ilt a b
  | [], [] => rfl
  | [], _ :: _ => rfl
  | _ :: _, [] => rfl
  | a :: as, b :: bs => by
    rw [HT.lexLt_cons, ilt, ilt_hand as bs]
    by_cases h : a = b
    · subst h; simp
    · rw [if_neg h]
      by_cases h2 : a < b
      · simp [h2]
      · have : b < a := by omega
        simp [h2, this]
theorem sortedO_iD {L : List (List Int)} {M : Mem} (h : ∀ l ∈ L, l ≠ []) (hl : L.length ≤ 16777216) : sortedO (.lst (L.map iD)) M = some ((isort (fun a b => !ilt b a) L).map iD) :=
  sortedO_enc iD (fun l => .tuple (l.map .int)) (pd_iD M) (sortable_iD h) _ (fun a b => by
    show _ = !PyProof.Rows.lexLt itemOrd (PySem.W.keyToks _) (PySem.W.keyToks _)
    unfold PySem.W.keyToks
    rw [ilt_toks]) hl
theorem sortedO_ints {L : List Int} {M : Mem} (hl : L.length ≤ 16777216) : sortedO (.lst (L.map .int)) M = some ((isort (fun a b => decide (a ≤ b)) L).map .int) :=
  sortedO_enc .int .int (fun _ => rfl) (by
    unfold sortable
    simp only [Bool.and_eq_true, List.all_eq_true, Bool.or_eq_true, List.mem_map]
    refine ⟨⟨?_, .inr ?_⟩, ?_⟩
    · rintro p ⟨a, ha, rfl⟩ q ⟨b, hb, rfl⟩
      unfold PySem.W.alike; rfl
    · rintro p ⟨a, ha, rfl⟩; rfl
    · rintro p ⟨a, ha, rfl⟩
      unfold SeqAt.shaped
      simp [PyData.canLay0, PyData.depth]) _ (fun a b => by
    show _ = !PyProof.Rows.lexLt itemOrd (PySem.W.keyToks _) (PySem.W.keyToks _)
    unfold PySem.W.keyToks
    rw [PyProof.Rows.lex_cons]
    show _ = !(decide (b < a) || (!decide (a < b) && false))
    rw [Bool.and_false, Bool.or_false]
    by_cases h : a ≤ b
    · rw [decide_eq_true h, decide_eq_false (by omega)]; rfl
    · rw [decide_eq_false h, decide_eq_true (by omega)]; rfl) hl
/-! ### repr -/
mutual
/-- data whose text is short enough -/
def rOk : Nat → D → Bool
  | 0, _ => false
  | n + 1, d => match d with
    | .non => true
    | .bl _ => true
    | .int i => decide (i.natAbs < 1000000000000)
    | .str z => z.all fun c => decide (c < 65536)
    | .tup xs => rOks n xs
    | .lst xs => rOks n xs
    | _ => false
def rOks : Nat → List D → Bool
  | _, [] => true
  | n, x :: xs => rOk n x && rOks n xs
end
mutual
/-- its weight at most -/
def rW : Nat → D → Nat
  | 0, _ => 0
  | n + 1, d => match d with
    | .int _ => 41
    | .str z => z.length
    | .tup xs => rWs n xs
    | .lst xs => rWs n xs
    | _ => 0
def rWs : Nat → List D → Nat
  | _, [] => 0
  | n, x :: xs => rW n x + 1 + rWs n xs
end
structure RP (n : Nat) (d : D) (p : PyData) : Prop where
  pd : ∀ (m : Nat) (M : Mem), n ≤ m → pdN M m d = some p
  sh : p.showable = true
  nd : p.hasDict = false
  ls : p.leavesShort 13 = true
  wt : p.weight ≤ rW n d
  dp : p.depth ≤ n
structure RPs (n : Nat) (ds : List D) (ps : List PyData) : Prop where
  pd : ∀ (m : Nat) (M : Mem), n ≤ m → mapO (pdN M m) ds = some ps
  sh : PyData.showableAll ps = true
  nd : PyData.hasDictAll ps = false
  ls : PyData.leavesShortAll 13 ps = true
  wt : PyData.weightAll ps ≤ rWs n ds
  dp : PyData.depthAll ps ≤ n
theorem log_12 {i : Nat} (h : i < 1000000000000) : i.log2 ≤ 40 := by
  by_cases hi : i = 0
  · subst hi; decide
  · have := (Nat.log2_lt hi (k := 40)).mpr (by omega)
    omega
mutual
theorem rp_ok : ∀ (n : Nat) (d : D), rOk n d = true → ∃ p, RP n d p
  | 0, _, h => by unfold rOk at h; cases h
  | n + 1, d, h => by
    unfold rOk at h
    split at h
    · exact ⟨.none, fun m M hm => by obtain ⟨m, rfl⟩ : ∃ j, m = j + 1 := ⟨m - 1, by omega⟩; rfl, rfl, rfl, rfl, by simp [PyData.weight], by simp [PyData.depth]⟩
    · rename_i b
      exact ⟨.bool b, fun m M hm => by obtain ⟨m, rfl⟩ : ∃ j, m = j + 1 := ⟨m - 1, by omega⟩; rfl, rfl, rfl, rfl, by simp [PyData.weight], by simp [PyData.depth]⟩
    · rename_i i
      have hi := of_decide_eq_true h
      have hlg := log_12 hi
      refine ⟨.int i, fun m M hm => by obtain ⟨m, rfl⟩ : ∃ j, m = j + 1 := ⟨m - 1, by omega⟩; rfl, ?_, rfl, ?_, ?_, by simp [PyData.depth]⟩
      · simp [PyData.showable]; omega
      · simp [PyData.leavesShort]; exact PyData.shown_int_le (by omega)
      · show PyData.weight (.int i) ≤ 41
        unfold PyData.weight
        split <;> omega
    · rename_i z
      refine ⟨.str ⟨z.toArray⟩, fun m M hm => by obtain ⟨m, rfl⟩ : ∃ j, m = j + 1 := ⟨m - 1, by omega⟩; rfl, rfl, rfl, ?_, ?_, by simp [PyData.depth]⟩
      · simp only [PyData.leavesShort, List.all_eq_true, decide_eq_true_eq] at h ⊢
        intro c hc
        have := h c (by simpa using hc)
        omega
      · show PyData.weight (.str _) ≤ z.length
        simp [PyData.weight]
    · rename_i xs
      obtain ⟨ps, P⟩ := rps_ok n xs h
      refine ⟨.tuple ps, fun m M hm => ?_, ?_, ?_, ?_, ?_, ?_⟩
      · obtain ⟨m, rfl⟩ : ∃ j, m = j + 1 := ⟨m - 1, by omega⟩
        show (match mapO (pdN M m) xs with
          | some ys => some (PyData.tuple ys)
          | none => none) = _
        rw [P.pd m M (by omega)]
      · unfold PyData.showable; exact P.sh
      · unfold PyData.hasDict; exact P.nd
      · unfold PyData.leavesShort; exact P.ls
      · show PyData.weight (.tuple ps) ≤ rWs n xs
        unfold PyData.weight; exact P.wt
      · unfold PyData.depth
        have := P.dp
        omega
    · rename_i xs
      obtain ⟨ps, P⟩ := rps_ok n xs h
      refine ⟨.list ps, fun m M hm => ?_, ?_, ?_, ?_, ?_, ?_⟩
      · obtain ⟨m, rfl⟩ : ∃ j, m = j + 1 := ⟨m - 1, by omega⟩
        show (match mapO (pdN M m) xs with
          | some ys => some (PyData.list ys)
          | none => none) = _
        rw [P.pd m M (by omega)]
      · unfold PyData.showable; exact P.sh
      · unfold PyData.hasDict; exact P.nd
      · unfold PyData.leavesShort; exact P.ls
      · show PyData.weight (.list ps) ≤ rWs n xs
        unfold PyData.weight; exact P.wt
      · unfold PyData.depth
        have := P.dp
        omega
    · cases h
theorem rps_ok : ∀ (n : Nat) (ds : List D), rOks n ds = true → ∃ ps, RPs n ds ps
  | n, [], _ => ⟨[], fun _ _ _ => rfl, rfl, rfl, rfl, by simp [PyData.weightAll], by simp [PyData.depthAll]⟩
  | n, d :: ds, h => by
    unfold rOks at h
    rw [Bool.and_eq_true] at h
    obtain ⟨p, P⟩ := rp_ok n d h.1
    obtain ⟨ps, Ps⟩ := rps_ok n ds h.2
    refine ⟨p :: ps, fun m M hm => by rw [mapO, P.pd m M hm, Ps.pd m M hm], ?_, ?_, ?_, ?_, ?_⟩
    · unfold PyData.showableAll; rw [P.sh, Ps.sh]; rfl
    · unfold PyData.hasDictAll; rw [P.nd, Ps.nd]; rfl
    · unfold PyData.leavesShortAll; rw [P.ls, Ps.ls]; rfl
    · unfold PyData.weightAll rWs
      have := P.wt
      have := Ps.wt
      omega
    · unfold PyData.depthAll
      have := P.dp
      have := Ps.dp
      omega
end
/-- its text -/
theorem repr_ok {n : Nat} {d : D} (h : rOk n d = true) (hn : n ≤ 60) (hw : rW n d ≤ 1048576) : ∃ z, ∀ M, cRepr [d] M = some (.str z) := by
  obtain ⟨p, P⟩ := rp_ok n d h
  refine ⟨p.shown.cps.toList, fun M => ?_⟩
  show reprO d M = _
  unfold reprO
  rw [P.pd 60 M hn]
  have h1 : p.shown.cps.toList.length ≤ 16777216 := by
    have := PyData.shown_fits (by decide) (by decide) P.ls (by have := P.wt; show _ ≤ 1048576; omega)
    rw [sizeLine_eq] at this
    have e : p.shown.length = p.shown.cps.toList.length := by show p.shown.cps.size = _; simp
    omega
  have h2 : p.depth ≤ 60 := by have := P.dp; omega
  simp only [P.sh, P.nd, decide_eq_true h1, decide_eq_true h2, Bool.not_false, Bool.and_self, if_true]
theorem rOks_all {n : Nat} : ∀ {ds : List D}, (∀ d ∈ ds, rOk n d = true) → rOks n ds = true
  | [], _ => by unfold rOks; rfl
  | d :: ds, h => by
    unfold rOks
    rw [h d (List.mem_cons_self ..), rOks_all fun x hx => h x (List.mem_cons_of_mem _ hx)]; rfl
theorem rWs_le {n k : Nat} : ∀ {ds : List D}, (∀ d ∈ ds, rW n d ≤ k) → rWs n ds ≤ (k + 1) * ds.length
  | [], _ => by unfold rWs; exact Nat.zero_le _
  | d :: ds, h => by
    unfold rWs
    have h1 := h d (List.mem_cons_self ..)
    have h2 := rWs_le fun x hx => h x (List.mem_cons_of_mem _ hx)
    rw [List.length_cons, Nat.mul_add, Nat.mul_one]
    omega
theorem rOk_tup {n : Nat} {ds : List D} (h : ∀ d ∈ ds, rOk n d = true) : rOk (n + 1) (.tup ds) = true := by unfold rOk; exact rOks_all h
theorem rOk_lst {n : Nat} {ds : List D} (h : ∀ d ∈ ds, rOk n d = true) : rOk (n + 1) (.lst ds) = true := by unfold rOk; exact rOks_all h
theorem rW_tup {n k : Nat} {ds : List D} (h : ∀ d ∈ ds, rW n d ≤ k) : rW (n + 1) (.tup ds) ≤ (k + 1) * ds.length := by unfold rW; exact rWs_le h
theorem rW_lst {n k : Nat} {ds : List D} (h : ∀ d ∈ ds, rW n d ≤ k) : rW (n + 1) (.lst ds) ≤ (k + 1) * ds.length := by unfold rW; exact rWs_le h
theorem rOk_int {n : Nat} {i : Int} (h : i.natAbs < 1000000000000) : rOk (n + 1) (.int i) = true := by unfold rOk; exact decide_eq_true h
theorem rW_int {n : Nat} {i : Int} : rW (n + 1) (.int i) ≤ 41 := by unfold rW; exact Nat.le_refl _
end KP

/-! loops over a list that stands in the memory -/
namespace KP
open PySem PySem.Spec PyProof.Rows L2
theorem forV_turn {g : SG} {b : SS} {iv : IV} {k i : Nat} {x : D} {σ : SD} {M : Mem} (h : ivAt iv i M = some (some x)) : forV g b iv (k + 1) i σ M = (turn g b x σ M).bind fun fl M2 => match fl with
      | .nx σ2 => forV g b iv k (i + 1) σ2 M2
      | .ct σ2 => forV g b iv k (i + 1) σ2 M2
      | .bk σ2 => .ok (.nx σ2) M2
      | .rt d => .ok (.rt d) M2 := by
  rw [forV, h, turn]
  dsimp only
  cases g x σ M with
  | ok a M1 => rfl
  | exc n fs M1 => rfl
  | bad => rfl
theorem Ev.forlv {g : SG} {b : SS} {Q : Fl → Mem → Prop} {j : Nat} {xs : List D} {σ : SD} {M : Mem} (I : List D → List D → SD → Mem → Prop) (hj : ∀ done rest σ M, I done rest σ M → M[j]? = some (.lst xs))
    (hs : ∀ done x rest σ M, I done (x :: rest) σ M → ∀ Q2 : Fl → Mem → Prop, (∀ σ2 M2, I (done ++ [x]) rest σ2 M2 → Q2 (.nx σ2) M2) → (∀ σ2 M2, I (done ++ [x]) rest σ2 M2 → Q2 (.ct σ2) M2) → (∀ σ2 M2, Q (.nx σ2) M2 → Q2 (.bk σ2) M2) → (∀ d M2, Q (.rt d) M2 → Q2 (.rt d) M2) → Ev (turn g b x σ M) Q2)
    (h0 : I [] xs σ M) (hl : xs.length < 20000000) (hq : ∀ σ M, I xs [] σ M → Q (.nx σ) M) : Ev (forU g b (.lv j) σ M) Q := by
  suffices H : ∀ (rest done : List D) (n : Nat) (σ : SD) (M : Mem), done ++ rest = xs → rest.length < n → I done rest σ M → Ev (forV g b (.lv j) n done.length σ M) Q from H xs [] 20000000 σ M rfl hl h0
  intro rest
  induction rest with
  | nil =>
    intro done n σ M hd hn h
    obtain ⟨n, rfl⟩ : ∃ k, n = k + 1 := ⟨n - 1, by simp at hn; omega⟩
    have hdx : done = xs := by simpa using hd
    have hi : ivAt (.lv j) done.length M = some none := by
      simp [ivAt, hj _ _ _ _ h, hdx]
    rw [forV, hi]
    refine ⟨_, _, rfl, hq σ M ?_⟩
    rw [← hdx]; exact h
  | cons x rest ih =>
    intro done n σ M hd hn h
    obtain ⟨n, rfl⟩ : ∃ k, n = k + 1 := ⟨n - 1, by simp at hn; omega⟩
    have hi : ivAt (.lv j) done.length M = some (some x) := by
      simp [ivAt, hj _ _ _ _ h, ← hd]
    rw [forV_turn hi]
    have hd' : (done ++ [x]) ++ rest = xs := by simpa using hd
    have hn' : rest.length < n := by simp at hn; omega
    obtain ⟨fl, M2, e2, h2⟩ := hs done x rest σ M h (fun fl M2 => match fl with
      | .nx σ2 => I (done ++ [x]) rest σ2 M2
      | .ct σ2 => I (done ++ [x]) rest σ2 M2
      | .bk σ2 => Q (.nx σ2) M2
      | .rt d => Q (.rt d) M2) (fun _ _ h => h) (fun _ _ h => h) (fun _ _ h => h) (fun _ _ h => h)
    have hlen : done.length + 1 = (done ++ [x]).length := by simp
    rw [e2, ev_bind]
    cases fl with
    | nx σ2 => rw [hlen]; exact ih _ _ _ _ hd' hn' h2
    | ct σ2 => rw [hlen]; exact ih _ _ _ _ hd' hn' h2
    | bk σ2 => exact ⟨_, _, rfl, h2⟩
    | rt d => exact ⟨_, _, rfl, h2⟩
end KP

/-! lists of truths; in, of a list -/
namespace KP
open PySem PySem.Spec PyProof.Rows L2
theorem blsO_map' : ∀ bs : List Bool, blsO (bs.map .bl) = some bs
  | [] => rfl
  | b :: bs => by rw [List.map_cons, blsO, blsO_map' bs]
theorem any_B {bs : List Bool} {M : Mem} : cAny [.lst (bs.map .bl)] M = some (.bl (bs.any id)) := by
  show (match blsO (bs.map D.bl) with
      | some bs => some (D.bl (bs.any id))
      | none => none) = _
  rw [blsO_map']
theorem all_B {bs : List Bool} {M : Mem} : cAll [.lst (bs.map .bl)] M = some (.bl (bs.all id)) := by
  show (match blsO (bs.map D.bl) with
      | some bs => some (D.bl (bs.all id))
      | none => none) = _
  rw [blsO_map']
open Classical in
theorem inO_plL {n : Nat} (hn : n + 1 ≤ 60) {d : D} {xs : List D} {M : Mem} (h : pl n d = true) (h' : xs.all (pl n) = true) : inO d (.lst xs) M = some (decide (d ∈ xs)) := by
  have hx : pl (n + 1) (.lst xs) = true := h'
  have a := pl_mono (Nat.le_of_succ_le hn) h
  have b := pl_mono hn hx
  have a' : pl 59 d = true := pl_mono (by omega) h
  have b' : xs.all (pl 59) = true := b
  have hin : inO d (.lst xs) M = match pdN M 60 d with
      | some p => match pdN M 60 (.lst xs) with
        | some (.list qs) => if (SeqAt.shaped p && SeqAt.shaped (.list qs)) = true then some (qs.any fun z => PyData.eqv z p) else none
        | some (.tuple qs) => if (SeqAt.shaped p && SeqAt.shaped (.tuple qs)) = true then some (qs.any fun z => PyData.eqv z p) else none
        | _ => none
      | none => none := by
    cases d with
    | str z =>
      match z with
      | [] => rfl
      | [c] => rfl
      | c :: c' :: r => rfl
    | _ => rfl
  rw [hin, pdN_pl M 60 d a, pdN_pl M 60 _ b]
  have e1 : toQ 60 (.lst xs) = .list (toQs 59 xs) := by rw [toQ]
  rw [e1]
  have s1 := shaped_pl (Nat.le_of_succ_le hn) h
  have s2 := shaped_pl hn hx
  rw [e1] at s2
  simp only [s1, s2, Bool.and_self, if_true]
  congr 1
  have e2 : ∀ (m : Nat) (d : D), pl m d = true → toQ (m + 1) d = toQ m d := by
    intro m
    induction m with
    | zero => intro d h; cases h
    | succ m ih =>
      intro d h
      have key : ∀ ys : List D, ys.all (pl m) = true → toQs (m + 1) ys = toQs m ys := by
        intro ys
        induction ys with
        | nil => intro _; unfold toQs; rfl
        | cons y ys ihy =>
          intro hy
          rw [List.all_cons, Bool.and_eq_true] at hy
          rw [toQs, toQs, ih y hy.1, ihy hy.2]
      unfold pl at h
      cases d with
      | tup ys => rw [toQ, toQ]; exact congrArg _ (key ys h)
      | lst ys => rw [toQ, toQ]; exact congrArg _ (key ys h)
      | non => simp only [toQ]
      | int i => rw [toQ, toQ]
      | str z => rw [toQ, toQ]
      | bl b => cases h
      | fl xs => cases h
      | ref k => cases h
      | ty t => cases h
  rw [e2 59 d a', toQs_map]
  rw [List.all_eq_true] at b'
  by_cases q : d ∈ xs
  · rw [decide_eq_true q, List.any_eq_true]
    exact ⟨toQ 59 d, List.mem_map.mpr ⟨d, q, rfl⟩, (eqv_pl 59 d d a' a').mpr rfl⟩
  · rw [decide_eq_false q]
    refine Bool.eq_false_iff.mpr fun z => q ?_
    rw [List.any_eq_true] at z
    obtain ⟨y, hy, hz⟩ := z
    obtain ⟨x, hx, rfl⟩ := List.mem_map.mp hy
    rw [← (eqv_pl 59 x d (b' x hx) a').mp hz]
    exact hx
open Classical in
theorem in_plL {n : Nat} (hn : n + 1 ≤ 60) {d : D} {xs : List D} {M : Mem} (h : pl n d = true) (h' : xs.all (pl n) = true) : dIn d (.lst xs) M = .ok (.bl (decide (d ∈ xs))) M := by
  show (optO (bO (inO d (.lst xs) M)) fun d => .ok d M) = _
  rw [inO_plL hn h h']; rfl
end KP

set_option autoImplicit false
namespace KP
open PySem PySem.Spec PyProof.Rows L2
def topS (i : Nat) : Stmt := PySem.Challenge.pw_keepsort_k19_programs_and_others.main.body.getD i (.Pass ⟨0,0,0,0⟩)
abbrev s__law_at_limits : Stmt := topS 28
abbrev s_is_word : Stmt := topS 8
abbrev s_is_integer : Stmt := topS 6
abbrev s_steps_in : Stmt := topS 13
abbrev s_first_invalid : Stmt := topS 14
abbrev s_is_program : Stmt := topS 15
abbrev s__law_told_right : Stmt := topS 29
abbrev s__law_whole : Stmt := topS 24
abbrev s__law_counted : Stmt := topS 25
abbrev s__law_first_bad : Stmt := topS 26
abbrev s__law_draw : Stmt := topS 19
abbrev s__law_times : Stmt := topS 21
abbrev s__law_word : Stmt := topS 20
abbrev s__law_steps : Stmt := topS 22
abbrev s__law_program : Stmt := topS 23
abbrev s__law_bent : Stmt := topS 27
abbrev s__law_right : Stmt := topS 30
abbrev s__law_pool : Stmt := topS 18
abbrev s__law_cell : Stmt := topS 17
abbrev s_law : Stmt := topS 31
structure Top (K : PySem.W.Frag) (mg : Str → Option Value) : Prop where
  c_KINDS : StrTup K mg "KINDS" [[82], [67]]
  c_MOST_LETTERS : ∃ t, mg "MOST_LETTERS" = some (.int 400 t)
  c_MOST_NESTED : ∃ t, mg "MOST_NESTED" = some (.int 5 t)
  c_MOST_STEPS : ∃ t, mg "MOST_STEPS" = some (.int 60 t)
  c_MOST_TIMES : ∃ t, mg "MOST_TIMES" = some (.int 1000000000000000000000000000000 t)
  c_REPEAT : ∃ t, mg "REPEAT" = some (.str ⟨[114, 101, 112, 101, 97, 116].toArray⟩ t)
  z_abs : mg "abs" = none
  z_all : mg "all" = none
  z_bool : mg "bool" = none
  z_divmod : mg "divmod" = none
  z_enumerate : mg "enumerate" = none
  z_int : mg "int" = none
  z_isinstance : mg "isinstance" = none
  z_len : mg "len" = none
  z_list : mg "list" = none
  z_max : mg "max" = none
  z_min : mg "min" = none
  z_range : mg "range" = none
  z_repr : mg "repr" = none
  z_str : mg "str" = none
  z_sum : mg "sum" = none
  z_tuple : mg "tuple" = none
  z_zip : mg "zip" = none
  d__law_at_limits : DefA K mg "_law_at_limits" "_law_at_limits" s__law_at_limits
  d_is_word : DefA K mg "is_word" "is_word" s_is_word
  d_is_integer : DefA K mg "is_integer" "is_integer" s_is_integer
  d_steps_in : DefA K mg "steps_in" "steps_in" s_steps_in
  d_first_invalid : DefA K mg "first_invalid" "first_invalid" s_first_invalid
  d_is_program : DefA K mg "is_program" "is_program" s_is_program
  d__law_told_right : DefA K mg "_law_told_right" "_law_told_right" s__law_told_right
  d__law_whole : DefA K mg "_law_whole" "_law_whole" s__law_whole
  d__law_counted : DefA K mg "_law_counted" "_law_counted" s__law_counted
  d__law_first_bad : DefA K mg "_law_first_bad" "_law_first_bad" s__law_first_bad
  d__law_draw : DefA K mg "_law_draw" "_law_draw" s__law_draw
  d__law_times : DefA K mg "_law_times" "_law_times" s__law_times
  d__law_word : DefA K mg "_law_word" "_law_word" s__law_word
  d__law_steps : DefA K mg "_law_steps" "_law_steps" s__law_steps
  d__law_program : DefA K mg "_law_program" "_law_program" s__law_program
  d__law_bent : DefA K mg "_law_bent" "_law_bent" s__law_bent
  d__law_right : DefA K mg "_law_right" "_law_right" s__law_right
  d__law_pool : DefA K mg "_law_pool" "_law_pool" s__law_pool
  d__law_cell : DefA K mg "_law_cell" "_law_cell" s__law_cell
  d_law : DefA K mg "law" "law" s_law
/-! _law_at_limits -/
theorem S__law_at_limits : FnScope ["_law_deep", "_law_found", "_law_turn"] [] (defScope s__law_at_limits) := ⟨rfl, rfl, rfl, by decide +kernel, rfl, by decide +kernel, by decide +kernel⟩
def p__law_at_limits_1 : SS := sSeq (sExpr (fMt "list" mAppend (fVar 1) (fsCons (fVar 0) (fsNil)))) (sAsg (fTup (fsCons (fTup (fsCons (fC (.str [114, 101, 112, 101, 97, 116])) (fsCons (fC (.int 1)) (fsCons (fVar 0) (fsNil))))) (fsNil))) (gSet 0))
def b__law_at_limits : SS := sSeq (sPar 0 1 (fsCons (fTup (fsCons (fC (.str [82])) (fsNil))) (fsCons (fLstN (fsNil)) (fsNil)))) (sSeq (sFor (iRange1 (fsCons (fC (.int 6)) (fsNil))) (gSet 2) (p__law_at_limits_1)) (sSeq (sAsg (fBin dAddN (fVar 1) (fLst (fsCons (fBin dMulT (fTup (fsCons (fC (.str [82])) (fsNil))) (fC (.int 60))) (fsCons (fBin dMulT (fTup (fsCons (fC (.str [67])) (fsNil))) (fC (.int 61))) (fsCons (fTup (fsCons (fTup (fsCons (fC (.str [114, 101, 112, 101, 97, 116])) (fsCons (fC (.int 3)) (fsCons (fBin dMulT (fTup (fsCons (fC (.str [82])) (fsNil))) (fC (.int 59))) (fsNil))))) (fsNil))) (fsCons (fTup (fsCons (fTup (fsCons (fC (.str [114, 101, 112, 101, 97, 116])) (fsCons (fC (.int 3)) (fsCons (fBin dMulT (fTup (fsCons (fC (.str [82])) (fsNil))) (fC (.int 60))) (fsNil))))) (fsNil))) (fsNil))))))) (gSet 1)) (sSeq (sAsg (fBin dAddN (fVar 1) (fLst (fsCons (fTup (fsCons (fBin dMulS (fC (.str [82])) (fC (.int 400))) (fsNil))) (fsCons (fTup (fsCons (fBin dMulS (fC (.str [67])) (fC (.int 401))) (fsNil))) (fsCons (fTup (fsNil)) (fsCons (fTup (fsCons (fTup (fsCons (fC (.str [114, 101, 112, 101, 97, 116])) (fsCons (fBin dPow (fC (.int 10)) (fC (.int 30))) (fsCons (fTup (fsNil)) (fsNil))))) (fsNil))) (fsCons (fTup (fsCons (fTup (fsCons (fC (.str [114, 101, 112, 101, 97, 116])) (fsCons (fBin dAdd (fBin dPow (fC (.int 10)) (fC (.int 30))) (fC (.int 1))) (fsCons (fTup (fsNil)) (fsNil))))) (fsNil))) (fsNil)))))))) (gSet 1)) (sRet (fBin dAdd (fVar 1) (fLst (fsCons (fTup (fsCons (fC (.str [82, 67])) (fsCons (fBin dMulS (fC (.str [67, 82])) (fC (.int 200))) (fsNil)))) (fsCons (fTup (fsCons (fC (.str [82, 67])) (fsCons (fC (.str [83])) (fsNil)))) (fsCons (fTup (fsCons (fTup (fsCons (fC (.str [114, 101, 112, 101, 97, 116])) (fsCons (fC (.int 0)) (fsCons (fTup (fsCons (fC (.str [82])) (fsNil))) (fsNil))))) (fsNil))) (fsCons (fTup (fsCons (fC (.str [114, 101, 112, 101, 97, 116])) (fsCons (fC (.int 1)) (fsCons (fTup (fsNil)) (fsNil))))) (fsNil)))))))))))
def g__law_at_limits : List D → Mem → Out D := fDef 3 b__law_at_limits
theorem h__law_at_limits {P : Program} {w : World} {K : PySem.W.Frag} {mg : Str → Option Value} {base : Heap} (T : Top K mg)  : Has P w K mg base 1 "_law_at_limits" s__law_at_limits [] g__law_at_limits := by
  refine has_defA (x := "_law_at_limits") (N := ["_law_deep", "_law_found", "_law_turn"]) (b := b__law_at_limits) T.d__law_at_limits S__law_at_limits (ks := [some .local, some .local, some .local]) (own := [0, 1, 2]) (by decide +kernel) (by decide) (fun _ _ _ _ _ _ us hl => by obtain rfl := len0 hl; rfl) fun X E hP hw hK hm hb C => ?_
  subst hP hw hK hm hb
  exact jss_cons (cpar2 C 0 1 (ja_cons (je_tup (ja_cons (cs) (ja_nil))) (ja_cons (je_lstN (ja_nil)) (ja_nil)))) (jss_cons (cfor C (crange1 C T.z_range (ja_cons (je_int) (ja_nil))) (cg C 2) (jss_cons (js_expr (je_bm PySem.F.plainAttrs_list PySem.F.slot_list_append PySem.F.type_list_append om_append (cv C 1) (ja_cons (cv C 0) (ja_nil)))) (jss_one (cset C 0 (je_tup (ja_cons (je_tup (ja_cons (cs) (ja_cons (je_int) (ja_cons (cv C 0) (ja_nil))))) (ja_nil))))))) (jss_cons (cset C 1 (je_bin od_addN (cv C 1) (je_lst (ja_cons (je_bin od_mulT (je_tup (ja_cons (cs) (ja_nil))) (je_int)) (ja_cons (je_bin od_mulT (je_tup (ja_cons (cs) (ja_nil))) (je_int)) (ja_cons (je_tup (ja_cons (je_tup (ja_cons (cs) (ja_cons (je_int) (ja_cons (je_bin od_mulT (je_tup (ja_cons (cs) (ja_nil))) (je_int)) (ja_nil))))) (ja_nil))) (ja_cons (je_tup (ja_cons (je_tup (ja_cons (cs) (ja_cons (je_int) (ja_cons (je_bin od_mulT (je_tup (ja_cons (cs) (ja_nil))) (je_int)) (ja_nil))))) (ja_nil))) (ja_nil)))))))) (jss_cons (cset C 1 (je_bin od_addN (cv C 1) (je_lst (ja_cons (je_tup (ja_cons (je_bin od_mulS (cs) (je_int)) (ja_nil))) (ja_cons (je_tup (ja_cons (je_bin od_mulS (cs) (je_int)) (ja_nil))) (ja_cons (je_tup (ja_nil)) (ja_cons (je_tup (ja_cons (je_tup (ja_cons (cs) (ja_cons (je_bin od_pow (je_int) (je_int)) (ja_cons (je_tup (ja_nil)) (ja_nil))))) (ja_nil))) (ja_cons (je_tup (ja_cons (je_tup (ja_cons (cs) (ja_cons (je_bin od_add (je_bin od_pow (je_int) (je_int)) (je_int)) (ja_cons (je_tup (ja_nil)) (ja_nil))))) (ja_nil))) (ja_nil))))))))) (jss_one (js_ret (je_bin od_add (cv C 1) (je_lst (ja_cons (je_tup (ja_cons (cs) (ja_cons (je_bin od_mulS (cs) (je_int)) (ja_nil)))) (ja_cons (je_tup (ja_cons (cs) (ja_cons (cs) (ja_nil)))) (ja_cons (je_tup (ja_cons (je_tup (ja_cons (cs) (ja_cons (je_int) (ja_cons (je_tup (ja_cons (cs) (ja_nil))) (ja_nil))))) (ja_nil))) (ja_cons (je_tup (ja_cons (cs) (ja_cons (je_int) (ja_cons (je_tup (ja_nil)) (ja_nil))))) (ja_nil))))))))))))
/-! is_word -/
theorem S_is_word : FnScope ["value", "letter"] ["value"] (defScope s_is_word) := ⟨rfl, rfl, rfl, by decide +kernel, rfl, by decide +kernel, by decide +kernel⟩
def e_is_word_1 : SF := fBin dIn (fVar 1) (fC (.tup ([[82], [67]].map .str)))
def b_is_word : SS := sSeq (sIf (bOr (bNot (fTru (fCall (pureC cIsi) (fsCons (fVar 0) (fsCons (fC (.ty "str")) (fsNil)))))) (asB (fBin dGt (fCall (pureC cLen) (fsCons (fVar 0) (fsNil))) (fC (.int 400))))) (sRet (fC (.bl false))) (sNil)) (sRet (fCall (pureC cAll) (fsCons (fLc [1] (iOf (fVar 0)) (gSet 1) (bYes) (e_is_word_1)) (fsNil))))
def g_is_word : List D → Mem → Out D := fDef 2 b_is_word
theorem h_is_word {P : Program} {w : World} {K : PySem.W.Frag} {mg : Str → Option Value} {base : Heap} (T : Top K mg)  : Has P w K mg base 1 "is_word" s_is_word ["value"] g_is_word := by
  refine has_defA (x := "is_word") (N := ["value", "letter"]) (b := b_is_word) T.d_is_word S_is_word (ks := [some .local, none]) (own := [0]) (by decide +kernel) (by decide) (fun _ _ _ _ _ _ us hl => by obtain ⟨a0, rfl⟩ := len1 hl; rfl) fun X E hP hw hK hm hb C => ?_
  subst hP hw hK hm hb
  exact jss_cons (js_if (jw_pt (jw_or (jt_not (jt_tru (cbi C oc_isi T.z_isinstance bt_isinstance (ja_cons (cv C 0) (ja_cons (ctn C T.z_str bt_str) (ja_nil)))))) (jw_or1 (jt_cmp od_gt (cbi C oc_len T.z_len bt_len (ja_cons (cv C 0) (ja_nil))) (cint C T.c_MOST_LETTERS) (by rfl))))) (jss_one (js_ret (je_bl))) (jss_nil)) (jss_one (js_ret (cbi C (oc_all C.calm) T.z_all bt_all (ja_cons (clc C [("letter", 1)] [none, some .local] (ji_of (cv C 0)) (fun _ _ _ _ _ C1 => ⟨cg C1 1, jts_nil, je_cmp (od_in C1.hu) (cv C1 1) (ctup C1 T.c_KINDS) (by rfl)⟩)) (ja_nil)))))
/-! is_integer -/
theorem S_is_integer : FnScope ["value", "low", "high"] ["value", "low", "high"] (defScope s_is_integer) := ⟨rfl, rfl, rfl, by decide +kernel, rfl, by decide +kernel, by decide +kernel⟩
def b_is_integer : SS := sRet (fAnd (fCall (pureC cIsi) (fsCons (fVar 0) (fsCons (fC (.ty "int")) (fsNil)))) (fAnd (fNot (fCall (pureC cIsi) (fsCons (fVar 0) (fsCons (fC (.ty "bool")) (fsNil))))) (fChain dLe dLe (fVar 1) (fVar 0) (fVar 2))))
def g_is_integer : List D → Mem → Out D := fDef 3 b_is_integer
theorem h_is_integer {P : Program} {w : World} {K : PySem.W.Frag} {mg : Str → Option Value} {base : Heap} (T : Top K mg)  : Has P w K mg base 1 "is_integer" s_is_integer ["value", "low", "high"] g_is_integer := by
  refine has_defA (x := "is_integer") (N := ["value", "low", "high"]) (b := b_is_integer) T.d_is_integer S_is_integer (ks := [some .local, some .local, some .local]) (own := [0, 1, 2]) (by decide +kernel) (by decide) (fun _ _ _ _ _ _ us hl => by obtain ⟨a0, a1, a2, rfl⟩ := len3 hl; rfl) fun X E hP hw hK hm hb C => ?_
  subst hP hw hK hm hb
  exact jss_one (js_ret (je_and (cbi C oc_isi T.z_isinstance bt_isinstance (ja_cons (cv C 0) (ja_cons (ctn C T.z_int bt_int) (ja_nil)))) (je_and (je_not (cbi C oc_isi T.z_isinstance bt_isinstance (ja_cons (cv C 0) (ja_cons (ctn C T.z_bool bt_bool) (ja_nil))))) (je_one (je_chain (od_le C.hu0) (od_le C.hu0) (cv C 1) (cv C 0) (cv C 2))))))
/-! steps_in -/
theorem S_steps_in : FnScope ["step", "nested", "word", "times", "program", "inner", "part"] ["step", "nested"] (defScope s_steps_in) := ⟨rfl, rfl, rfl, by decide +kernel, rfl, by decide +kernel, by decide +kernel⟩
def e_steps_in_1 (r_steps_in : List D → Mem → Out D) : SF := fCallD 2 r_steps_in (fsCons (fVar 6) (fsCons (fBin dSub (fVar 1) (fC (.int 1))) (fsNil)))
def b_steps_in (r_steps_in : List D → Mem → Out D) : SS := sSeq (sIf (fTru (fCall (pureC cIsi) (fsCons (fVar 0) (fsCons (fC (.ty "str")) (fsNil))))) (sRet (fCall (pureC cInt) (fsCons (fAnd (fBin dNeS (fVar 0) (fC (.str []))) (fCallD 1 g_is_word (fsCons (fVar 0) (fsNil)))) (fsNil)))) (sNil)) (sSeq (sIf (bOr (bNot (fTru (fCall (pureC cIsi) (fsCons (fVar 0) (fsCons (fC (.ty "tuple")) (fsNil)))))) (asB (fBin dNeS (fCall (pureC cLen) (fsCons (fVar 0) (fsNil))) (fC (.int 3))))) (sRet (fC (.int 0))) (sNil)) (sSeq (sAsg (fVar 0) (gTup 3 (gsCons (gSet 2) (gsCons (gSet 3) (gsCons (gSet 4) (gsNil)))))) (sSeq (sIf (bOr (asB (fBin dNeX (fVar 2) (fC (.str [114, 101, 112, 101, 97, 116])))) (bOr (asB (fBin dEqS (fVar 1) (fC (.int 0)))) (bOr (bNot (fTru (fCallD 3 g_is_integer (fsCons (fVar 3) (fsCons (fC (.int 1)) (fsCons (fC (.int 1000000000000000000000000000000)) (fsNil))))))) (bNot (fTru (fCall (pureC cIsi) (fsCons (fVar 4) (fsCons (fC (.ty "tuple")) (fsNil))))))))) (sRet (fC (.int 0))) (sNil)) (sSeq (sAsg (fLc [6] (iOf (fVar 4)) (gSet 6) (bYes) ((e_steps_in_1 r_steps_in))) (gSet 5)) (sRet (fIf (asB (fBin dIn (fC (.int 0)) (fVar 5))) (fC (.int 0)) (fBin dAdd (fC (.int 1)) (fCall (pureC cSumT) (fsCons (fVar 5) (fsNil))))))))))
def g_steps_in : Nat → List D → Mem → Out D
  | 0 => fun _ _ => .bad
  | n + 1 => fDef 7 (b_steps_in (g_steps_in n))
theorem hc_steps_in {P : Program} {w : World} {K : PySem.W.Frag} {mg : Str → Option Value} {base : Heap} (T : Top K mg) (h_is_word : Has P w K mg base 1 "is_word" s_is_word ["value"] g_is_word) (h_is_integer : Has P w K mg base 1 "is_integer" s_is_integer ["value", "low", "high"] g_is_integer) : ∀ n : Nat, Has P w K mg base (2 + n) "steps_in" s_steps_in ["step", "nested"] (g_steps_in n) := by
  intro n
  induction n with
  | zero => exact has_bad (x := "steps_in") T.d_steps_in S_steps_in (fun _ _ _ _ _ _ us hl => by obtain ⟨a0, a1, rfl⟩ := len2 hl; rfl)
  | succ n ih =>
    have hr_steps_in := ih
    refine has_defA (k := 2 + n) (x := "steps_in") (N := ["step", "nested", "word", "times", "program", "inner", "part"]) (b := b_steps_in (g_steps_in n)) T.d_steps_in S_steps_in (ks := [some .local, some .cell, some .local, some .local, some .local, some .local, none]) (own := [0, 1, 2, 3, 4, 5]) (by decide +kernel) (by decide) (fun _ _ _ _ _ _ us hl => by obtain ⟨a0, a1, rfl⟩ := len2 hl; rfl) fun X E hP hw hK hm hb C => ?_
    subst hP hw hK hm hb
    exact jss_cons (js_if (jt_tru (cbi C oc_isi T.z_isinstance bt_isinstance (ja_cons (cv C 0) (ja_cons (ctn C T.z_str bt_str) (ja_nil))))) (jss_one (js_ret (cty C oc_int T.z_int bt_int (ja_cons (je_and (je_cmp (od_neS C.hu64) (cv C 0) (cs) (by rfl)) (je_one (ccall C h_is_word (ja_cons (cv C 0) (ja_nil)) (hj := by omega)))) (ja_nil))))) (jss_nil)) (jss_cons (js_if (jw_pt (jw_or (jt_not (jt_tru (cbi C oc_isi T.z_isinstance bt_isinstance (ja_cons (cv C 0) (ja_cons (ctn C T.z_tuple bt_tuple) (ja_nil)))))) (jw_or1 (jt_cmp (od_neS C.hu64) (cbi C oc_len T.z_len bt_len (ja_cons (cv C 0) (ja_nil))) (je_int) (by rfl))))) (jss_one (js_ret (je_int))) (jss_nil)) (jss_cons (js_asg (cv C 0) (gtup C (jgs_cons (cg C 2) (jgs_cons (cg C 3) (jgs_cons (cg C 4) (jgs_nil)))))) (jss_cons (js_if (jw_pt (jw_or (jt_cmp (od_neX C.hu64) (cv C 2) (cstr C T.c_REPEAT) (by rfl)) (jw_or (jt_cmp (od_eqS C.hu64) (cv C 1) (je_int) (by rfl)) (jw_or (jt_not (jt_tru (ccall C h_is_integer (ja_cons (cv C 3) (ja_cons (je_int) (ja_cons (cint C T.c_MOST_TIMES) (ja_nil)))) (hj := by omega)))) (jw_or1 (jt_not (jt_tru (cbi C oc_isi T.z_isinstance bt_isinstance (ja_cons (cv C 4) (ja_cons (ctn C T.z_tuple bt_tuple) (ja_nil))))))))))) (jss_one (js_ret (je_int))) (jss_nil)) (jss_cons (csetLc C 5 [("part", 6)] [none, some .cell, none, none, none, none, some .local] (ji_of (cv C 4)) (fun _ _ _ _ _ C1 => ⟨cg C1 6, jts_nil, ccall C1 hr_steps_in (ja_cons (cv C1 6) (ja_cons (je_bin od_sub (cv C1 1) (je_int)) (ja_nil))) (hj := by omega)⟩)) (jss_one (js_ret (je_if (jt_cmp (od_in C.hu) (je_int) (cv C 5) (by rfl)) (je_int) (je_bin od_add (je_int) (cbi C (oc_sumT C.calm) T.z_sum bt_sum (ja_cons (cv C 5) (ja_nil)))))))))))
theorem h_steps_in {P : Program} {w : World} {K : PySem.W.Frag} {mg : Str → Option Value} {base : Heap} (T : Top K mg) (h_is_word : Has P w K mg base 1 "is_word" s_is_word ["value"] g_is_word) (h_is_integer : Has P w K mg base 1 "is_integer" s_is_integer ["value", "low", "high"] g_is_integer) : Has P w K mg base 14 "steps_in" s_steps_in ["step", "nested"] (g_steps_in 12) := (hc_steps_in (P := P) (w := w) (base := base) T h_is_word h_is_integer 12)
/-! first_invalid -/
theorem S_first_invalid : FnScope ["steps", "total", "index", "step", "more"] ["steps"] (defScope s_first_invalid) := ⟨rfl, rfl, rfl, by decide +kernel, rfl, by decide +kernel, by decide +kernel⟩
def p_first_invalid_1 : SS := sSeq (sAsg (fCallD 2 (g_steps_in 12) (fsCons (fVar 3) (fsCons (fBin dSub (fC (.int 5)) (fC (.int 1))) (fsNil)))) (gSet 4)) (sSeq (sAug 1 iAdd (fVar 4)) (sIf (bOr (asB (fBin dEqS (fVar 4) (fC (.int 0)))) (asB (fBin dGt (fVar 1) (fC (.int 60))))) (sRet (fVar 2)) (sNil)))
def b_first_invalid : SS := sSeq (sAsg (fC (.int 0)) (gSet 1)) (sSeq (sFor (iEnumD (fsCons (fVar 0) (fsNil))) (gTup 2 (gsCons (gSet 2) (gsCons (gSet 3) (gsNil)))) (p_first_invalid_1)) (sRet (fC .non)))
def g_first_invalid : List D → Mem → Out D := fDef 5 b_first_invalid
theorem h_first_invalid {P : Program} {w : World} {K : PySem.W.Frag} {mg : Str → Option Value} {base : Heap} (T : Top K mg) (h_steps_in : Has P w K mg base 14 "steps_in" s_steps_in ["step", "nested"] (g_steps_in 12)) : Has P w K mg base 15 "first_invalid" s_first_invalid ["steps"] g_first_invalid := by
  refine has_defA (x := "first_invalid") (N := ["steps", "total", "index", "step", "more"]) (b := b_first_invalid) T.d_first_invalid S_first_invalid (ks := [some .local, some .local, some .local, some .local, some .local]) (own := [0, 1, 2, 3, 4]) (by decide +kernel) (by decide) (fun _ _ _ _ _ _ us hl => by obtain ⟨a0, rfl⟩ := len1 hl; rfl) fun X E hP hw hK hm hb C => ?_
  subst hP hw hK hm hb
  exact jss_cons (cset C 1 (je_int)) (jss_cons (cfor C (cenum C T.z_enumerate (ja_cons (cv C 0) (ja_nil))) (gtup C (jgs_cons (cg C 2) (jgs_cons (cg C 3) (jgs_nil)))) (jss_cons (cset C 4 (ccall C h_steps_in (ja_cons (cv C 3) (ja_cons (je_bin od_sub (cint C T.c_MOST_NESTED) (je_int)) (ja_nil))))) (jss_cons (caug C 1 oi_addD (cv C 4)) (jss_one (js_if (jw_pt (jw_or (jt_cmp (od_eqS C.hu64) (cv C 4) (je_int) (by rfl)) (jw_or1 (jt_cmp od_gt (cv C 1) (cint C T.c_MOST_STEPS) (by rfl))))) (jss_one (js_ret (cv C 2))) (jss_nil)))))) (jss_one (js_ret (je_non))))
/-! is_program -/
theorem S_is_program : FnScope ["value"] ["value"] (defScope s_is_program) := ⟨rfl, rfl, rfl, by decide +kernel, rfl, by decide +kernel, by decide +kernel⟩
def b_is_program : SS := sRet (fAnd (fCall (pureC cIsi) (fsCons (fVar 0) (fsCons (fC (.ty "tuple")) (fsNil)))) (fBin dIs (fCallD 1 g_first_invalid (fsCons (fVar 0) (fsNil))) (fC .non)))
def g_is_program : List D → Mem → Out D := fDef 1 b_is_program
theorem h_is_program {P : Program} {w : World} {K : PySem.W.Frag} {mg : Str → Option Value} {base : Heap} (T : Top K mg) (h_first_invalid : Has P w K mg base 15 "first_invalid" s_first_invalid ["steps"] g_first_invalid) : Has P w K mg base 16 "is_program" s_is_program ["value"] g_is_program := by
  refine has_defA (x := "is_program") (N := ["value"]) (b := b_is_program) T.d_is_program S_is_program (ks := [some .local]) (own := [0]) (by decide +kernel) (by decide) (fun _ _ _ _ _ _ us hl => by obtain ⟨a0, rfl⟩ := len1 hl; rfl) fun X E hP hw hK hm hb C => ?_
  subst hP hw hK hm hb
  exact jss_one (js_ret (je_and (cbi C oc_isi T.z_isinstance bt_isinstance (ja_cons (cv C 0) (ja_cons (ctn C T.z_tuple bt_tuple) (ja_nil)))) (je_one (je_cmp od_is (ccall C h_first_invalid (ja_cons (cv C 0) (ja_nil))) (je_non) (by rfl)))))
/-! _law_told_right -/
theorem S__law_told_right : FnScope ["_law_thing", "_law_due"] ["_law_thing", "_law_due"] (defScope s__law_told_right) := ⟨rfl, rfl, rfl, by decide +kernel, rfl, by decide +kernel, by decide +kernel⟩
def b__law_told_right : SS := sRet (fBin dEqS (fCall (pureC cRepr) (fsCons (fLst (fsCons (fCallD 1 g_is_program (fsCons (fVar 0) (fsNil))) (fsCons (fCallK [0] 1 g_is_program (fsCons (fVar 0) (fsNil))) (fsNil)))) (fsNil))) (fCall (pureC cRepr) (fsCons (fLst (fsCons (fVar 1) (fsCons (fVar 1) (fsNil)))) (fsNil))))
def g__law_told_right : List D → Mem → Out D := fDef 2 b__law_told_right
theorem h__law_told_right {P : Program} {w : World} {K : PySem.W.Frag} {mg : Str → Option Value} {base : Heap} (T : Top K mg) (h_is_program : Has P w K mg base 16 "is_program" s_is_program ["value"] g_is_program) : Has P w K mg base 17 "_law_told_right" s__law_told_right ["_law_thing", "_law_due"] g__law_told_right := by
  refine has_defA (x := "_law_told_right") (N := ["_law_thing", "_law_due"]) (b := b__law_told_right) T.d__law_told_right S__law_told_right (ks := [some .local, some .local]) (own := [0, 1]) (by decide +kernel) (by decide) (fun _ _ _ _ _ _ us hl => by obtain ⟨a0, a1, rfl⟩ := len2 hl; rfl) fun X E hP hw hK hm hb C => ?_
  subst hP hw hK hm hb
  exact jss_one (js_ret (je_cmp (od_eqS C.hu64) (cbi C (oc_repr C.gd C.hu100) T.z_repr bt_repr (ja_cons (je_lst (ja_cons (ccall C h_is_program (ja_cons (cv C 0) (ja_nil))) (ja_cons (ccallK C h_is_program ["value"] [0] (jk_cons (cv C 0) (jk_nil)) (fun _ _ _ _ _ _ _ ws hl => by obtain ⟨a0, rfl⟩ := len1 hl; rfl)) (ja_nil)))) (ja_nil))) (cbi C (oc_repr C.gd C.hu100) T.z_repr bt_repr (ja_cons (je_lst (ja_cons (cv C 1) (ja_cons (cv C 1) (ja_nil)))) (ja_nil))) (by rfl)))
/-! _law_whole -/
theorem S__law_whole : FnScope ["_law_thing", "_law_least", "_law_most"] ["_law_thing", "_law_least", "_law_most"] (defScope s__law_whole) := ⟨rfl, rfl, rfl, by decide +kernel, rfl, by decide +kernel, by decide +kernel⟩
def b__law_whole : SS := sRet (fAnd (fCall (pureC cIsi) (fsCons (fVar 0) (fsCons (fC (.ty "int")) (fsNil)))) (fAnd (fNot (fCall (pureC cIsi) (fsCons (fVar 0) (fsCons (fC (.ty "bool")) (fsNil))))) (fChain dLe dLe (fVar 1) (fVar 0) (fVar 2))))
def g__law_whole : List D → Mem → Out D := fDef 3 b__law_whole
theorem h__law_whole {P : Program} {w : World} {K : PySem.W.Frag} {mg : Str → Option Value} {base : Heap} (T : Top K mg)  : Has P w K mg base 1 "_law_whole" s__law_whole ["_law_thing", "_law_least", "_law_most"] g__law_whole := by
  refine has_defA (x := "_law_whole") (N := ["_law_thing", "_law_least", "_law_most"]) (b := b__law_whole) T.d__law_whole S__law_whole (ks := [some .local, some .local, some .local]) (own := [0, 1, 2]) (by decide +kernel) (by decide) (fun _ _ _ _ _ _ us hl => by obtain ⟨a0, a1, a2, rfl⟩ := len3 hl; rfl) fun X E hP hw hK hm hb C => ?_
  subst hP hw hK hm hb
  exact jss_one (js_ret (je_and (cbi C oc_isi T.z_isinstance bt_isinstance (ja_cons (cv C 0) (ja_cons (ctn C T.z_int bt_int) (ja_nil)))) (je_and (je_not (cbi C oc_isi T.z_isinstance bt_isinstance (ja_cons (cv C 0) (ja_cons (ctn C T.z_bool bt_bool) (ja_nil))))) (je_one (je_chain (od_le C.hu0) (od_le C.hu0) (cv C 1) (cv C 0) (cv C 2))))))
/-! _law_counted -/
theorem S__law_counted : FnScope ["_law_step", "_law_deep", "_law_inner", "_law_part"] ["_law_step", "_law_deep"] (defScope s__law_counted) := ⟨rfl, rfl, rfl, by decide +kernel, rfl, by decide +kernel, by decide +kernel⟩
def e__law_counted_1 (r__law_counted : List D → Mem → Out D) : SF := fCallD 2 r__law_counted (fsCons (fVar 3) (fsCons (fBin dSub (fVar 1) (fC (.int 1))) (fsNil)))
def b__law_counted (r__law_counted : List D → Mem → Out D) : SS := sSeq (sIf (fTru (fCall (pureC cIsi) (fsCons (fVar 0) (fsCons (fC (.ty "str")) (fsNil))))) (sRet (fCall (pureC cInt) (fsCons (fAnd (fChain dLt dLt (fC (.int 0)) (fCall (pureC cLen) (fsCons (fVar 0) (fsNil))) (fC (.int 401))) (fBin dEqS (fBin dAdd (fMt "str" mCountS (fVar 0) (fsCons (fC (.str [82])) (fsNil))) (fMt "str" mCountS (fVar 0) (fsCons (fC (.str [67])) (fsNil)))) (fCall (pureC cLen) (fsCons (fVar 0) (fsNil))))) (fsNil)))) (sNil)) (sSeq (sIf (bOr (bNot (fTru (fCall (pureC cIsi) (fsCons (fVar 0) (fsCons (fC (.ty "tuple")) (fsNil)))))) (bOr (asB (fBin dNeS (fCall (pureC cLen) (fsCons (fVar 0) (fsNil))) (fC (.int 3)))) (bOr (bNot (fTru (fCall (pureC cIsi) (fsCons (fBin (pure2 ixO) (fVar 0) (fC (.int 0))) (fsCons (fC (.ty "str")) (fsNil)))))) (asB (fBin dNeS (fBin (pure2 ixO) (fVar 0) (fC (.int 0))) (fC (.str [114, 101, 112, 101, 97, 116]))))))) (sRet (fC (.int 0))) (sNil)) (sSeq (sIf (bOr (asB (fBin dLt (fVar 1) (fC (.int 1)))) (bOr (bNot (fTru (fCallD 3 g__law_whole (fsCons (fBin (pure2 ixO) (fVar 0) (fC (.int 1))) (fsCons (fC (.int 1)) (fsCons (fBin dPow (fC (.int 10)) (fC (.int 30))) (fsNil))))))) (bNot (fTru (fCall (pureC cIsi) (fsCons (fBin (pure2 ixO) (fVar 0) (fC (.int 2))) (fsCons (fC (.ty "tuple")) (fsNil)))))))) (sRet (fC (.int 0))) (sNil)) (sSeq (sAsg (fLc [3] (iOf (fBin (pure2 ixO) (fVar 0) (fC (.int 2)))) (gSet 3) (bYes) ((e__law_counted_1 r__law_counted))) (gSet 2)) (sRet (fIf (asB (fBin dIn (fC (.int 0)) (fVar 2))) (fC (.int 0)) (fBin dAdd (fC (.int 1)) (fCall (pureC cSumT) (fsCons (fVar 2) (fsNil)))))))))
def g__law_counted : Nat → List D → Mem → Out D
  | 0 => fun _ _ => .bad
  | n + 1 => fDef 4 (b__law_counted (g__law_counted n))
theorem hc__law_counted {P : Program} {w : World} {K : PySem.W.Frag} {mg : Str → Option Value} {base : Heap} (T : Top K mg) (h__law_whole : Has P w K mg base 1 "_law_whole" s__law_whole ["_law_thing", "_law_least", "_law_most"] g__law_whole) : ∀ n : Nat, Has P w K mg base (2 + n) "_law_counted" s__law_counted ["_law_step", "_law_deep"] (g__law_counted n) := by
  intro n
  induction n with
  | zero => exact has_bad (x := "_law_counted") T.d__law_counted S__law_counted (fun _ _ _ _ _ _ us hl => by obtain ⟨a0, a1, rfl⟩ := len2 hl; rfl)
  | succ n ih =>
    have hr__law_counted := ih
    refine has_defA (k := 2 + n) (x := "_law_counted") (N := ["_law_step", "_law_deep", "_law_inner", "_law_part"]) (b := b__law_counted (g__law_counted n)) T.d__law_counted S__law_counted (ks := [some .local, some .cell, some .local, none]) (own := [0, 1, 2]) (by decide +kernel) (by decide) (fun _ _ _ _ _ _ us hl => by obtain ⟨a0, a1, rfl⟩ := len2 hl; rfl) fun X E hP hw hK hm hb C => ?_
    subst hP hw hK hm hb
    exact jss_cons (js_if (jt_tru (cbi C oc_isi T.z_isinstance bt_isinstance (ja_cons (cv C 0) (ja_cons (ctn C T.z_str bt_str) (ja_nil))))) (jss_one (js_ret (cty C oc_int T.z_int bt_int (ja_cons (je_and (je_chain (od_lt C.hu0) (od_lt C.hu0) (je_int) (cbi C oc_len T.z_len bt_len (ja_cons (cv C 0) (ja_nil))) (je_int)) (je_one (je_cmp (od_eqS C.hu64) (je_bin od_add (je_bm PySem.F.plainAttrs_str PySem.F.slot_str_count PySem.F.type_str_count om_countS (cv C 0) (ja_cons (cs) (ja_nil))) (je_bm PySem.F.plainAttrs_str PySem.F.slot_str_count PySem.F.type_str_count om_countS (cv C 0) (ja_cons (cs) (ja_nil)))) (cbi C oc_len T.z_len bt_len (ja_cons (cv C 0) (ja_nil))) (by rfl)))) (ja_nil))))) (jss_nil)) (jss_cons (js_if (jw_pt (jw_or (jt_not (jt_tru (cbi C oc_isi T.z_isinstance bt_isinstance (ja_cons (cv C 0) (ja_cons (ctn C T.z_tuple bt_tuple) (ja_nil)))))) (jw_or (jt_cmp (od_neS C.hu64) (cbi C oc_len T.z_len bt_len (ja_cons (cv C 0) (ja_nil))) (je_int) (by rfl)) (jw_or (jt_not (jt_tru (cbi C oc_isi T.z_isinstance bt_isinstance (ja_cons (je_ix (cv C 0) (je_int)) (ja_cons (ctn C T.z_str bt_str) (ja_nil)))))) (jw_or1 (jt_cmp (od_neS C.hu64) (je_ix (cv C 0) (je_int)) (cs) (by rfl))))))) (jss_one (js_ret (je_int))) (jss_nil)) (jss_cons (js_if (jw_pt (jw_or (jt_cmp (od_lt C.hu0) (cv C 1) (je_int) (by rfl)) (jw_or (jt_not (jt_tru (ccall C h__law_whole (ja_cons (je_ix (cv C 0) (je_int)) (ja_cons (je_int) (ja_cons (je_bin od_pow (je_int) (je_int)) (ja_nil)))) (hj := by omega)))) (jw_or1 (jt_not (jt_tru (cbi C oc_isi T.z_isinstance bt_isinstance (ja_cons (je_ix (cv C 0) (je_int)) (ja_cons (ctn C T.z_tuple bt_tuple) (ja_nil)))))))))) (jss_one (js_ret (je_int))) (jss_nil)) (jss_cons (csetLc C 2 [("_law_part", 3)] [none, some .cell, none, some .local] (ji_of (je_ix (cv C 0) (je_int))) (fun _ _ _ _ _ C1 => ⟨cg C1 3, jts_nil, ccall C1 hr__law_counted (ja_cons (cv C1 3) (ja_cons (je_bin od_sub (cv C1 1) (je_int)) (ja_nil))) (hj := by omega)⟩)) (jss_one (js_ret (je_if (jt_cmp (od_in C.hu) (je_int) (cv C 2) (by rfl)) (je_int) (je_bin od_add (je_int) (cbi C (oc_sumT C.calm) T.z_sum bt_sum (ja_cons (cv C 2) (ja_nil))))))))))
theorem h__law_counted {P : Program} {w : World} {K : PySem.W.Frag} {mg : Str → Option Value} {base : Heap} (T : Top K mg) (h__law_whole : Has P w K mg base 1 "_law_whole" s__law_whole ["_law_thing", "_law_least", "_law_most"] g__law_whole) : Has P w K mg base 14 "_law_counted" s__law_counted ["_law_step", "_law_deep"] (g__law_counted 12) := (hc__law_counted (P := P) (w := w) (base := base) T h__law_whole 12)
/-! _law_first_bad -/
theorem S__law_first_bad : FnScope ["_law_thing", "_law_total", "_law_at", "_law_step", "_law_more"] ["_law_thing"] (defScope s__law_first_bad) := ⟨rfl, rfl, rfl, by decide +kernel, rfl, by decide +kernel, by decide +kernel⟩
def p__law_first_bad_1 : SS := sSeq (sAsg (fCallD 2 (g__law_counted 12) (fsCons (fVar 3) (fsCons (fC (.int 4)) (fsNil)))) (gSet 4)) (sSeq (sAsg (fBin dAdd (fVar 1) (fVar 4)) (gSet 1)) (sIf (bOr (asB (fBin dEqS (fVar 4) (fC (.int 0)))) (asB (fBin dGt (fVar 1) (fC (.int 60))))) (sRet (fLst (fsCons (fVar 2) (fsNil)))) (sNil)))
def b__law_first_bad : SS := sSeq (sIf (bNot (fTru (fCall (pureC cIsi) (fsCons (fVar 0) (fsCons (fC (.ty "tuple")) (fsNil)))))) (sRet (fLst (fsCons (fC .non) (fsNil)))) (sNil)) (sSeq (sAsg (fC (.int 0)) (gSet 1)) (sSeq (sFor (iEnumD (fsCons (fVar 0) (fsNil))) (gTup 2 (gsCons (gSet 2) (gsCons (gSet 3) (gsNil)))) (p__law_first_bad_1)) (sRet (fLst (fsNil)))))
def g__law_first_bad : List D → Mem → Out D := fDef 5 b__law_first_bad
theorem h__law_first_bad {P : Program} {w : World} {K : PySem.W.Frag} {mg : Str → Option Value} {base : Heap} (T : Top K mg) (h__law_counted : Has P w K mg base 14 "_law_counted" s__law_counted ["_law_step", "_law_deep"] (g__law_counted 12)) : Has P w K mg base 15 "_law_first_bad" s__law_first_bad ["_law_thing"] g__law_first_bad := by
  refine has_defA (x := "_law_first_bad") (N := ["_law_thing", "_law_total", "_law_at", "_law_step", "_law_more"]) (b := b__law_first_bad) T.d__law_first_bad S__law_first_bad (ks := [some .local, some .local, some .local, some .local, some .local]) (own := [0, 1, 2, 3, 4]) (by decide +kernel) (by decide) (fun _ _ _ _ _ _ us hl => by obtain ⟨a0, rfl⟩ := len1 hl; rfl) fun X E hP hw hK hm hb C => ?_
  subst hP hw hK hm hb
  exact jss_cons (js_if (jt_not (jt_tru (cbi C oc_isi T.z_isinstance bt_isinstance (ja_cons (cv C 0) (ja_cons (ctn C T.z_tuple bt_tuple) (ja_nil)))))) (jss_one (js_ret (je_lst (ja_cons (je_non) (ja_nil))))) (jss_nil)) (jss_cons (cset C 1 (je_int)) (jss_cons (cfor C (cenum C T.z_enumerate (ja_cons (cv C 0) (ja_nil))) (gtup C (jgs_cons (cg C 2) (jgs_cons (cg C 3) (jgs_nil)))) (jss_cons (cset C 4 (ccall C h__law_counted (ja_cons (cv C 3) (ja_cons (je_int) (ja_nil))))) (jss_cons (cset C 1 (je_bin od_add (cv C 1) (cv C 4))) (jss_one (js_if (jw_pt (jw_or (jt_cmp (od_eqS C.hu64) (cv C 4) (je_int) (by rfl)) (jw_or1 (jt_cmp od_gt (cv C 1) (je_int) (by rfl))))) (jss_one (js_ret (je_lst (ja_cons (cv C 2) (ja_nil))))) (jss_nil)))))) (jss_one (js_ret (je_lst (ja_nil))))))
/-! _law_draw -/
theorem S__law_draw : FnScope ["_law_pool_here", "_law_most", "_law_state", "_law_digit"] ["_law_pool_here", "_law_most"] (defScope s__law_draw) := ⟨rfl, rfl, rfl, by decide +kernel, rfl, by decide +kernel, by decide +kernel⟩
def b__law_draw : SS := sSeq (sAsg (fBin dAdd (fBin (pure2 ixO) (fVar 0) (fC (.int 2))) (fC (.int 1))) (gSub (fVar 0) (fC (.int 2)))) (sSeq (sAsg (fBin (pure2 ixO) (fVar 0) (fC (.int 0))) (gSet 2)) (sSeq (sAsg (fBin dMod (fBin dAdd (fBin dMulT (fVar 2) (fBin dAdd (fBin dMod (fVar 2) (fC (.int 50021))) (fC (.int 30011)))) (fBin dMulT (fC (.int 80021)) (fBin (pure2 ixO) (fVar 0) (fC (.int 2))))) (fC (.int 2147483249))) (gSub (fVar 0) (fC (.int 0)))) (sSeq (sIf (asB (fBin dGt (fBin (pure2 ixO) (fVar 0) (fC (.int 1))) (fC (.int 0)))) (sSeq (sAsg (fCall (cDivmod) (fsCons (fBin (pure2 ixO) (fVar 0) (fC (.int 1))) (fsCons (fVar 1) (fsNil)))) (gTup 2 (gsCons (gSub (fVar 0) (fC (.int 1))) (gsCons (gSet 3) (gsNil))))) (sRet (fVar 3))) (sNil)) (sRet (fBin dMod (fBin dDiv (fBin (pure2 ixO) (fVar 0) (fC (.int 0))) (fC (.int 64))) (fVar 1))))))
def g__law_draw : List D → Mem → Out D := fDef 4 b__law_draw
theorem h__law_draw {P : Program} {w : World} {K : PySem.W.Frag} {mg : Str → Option Value} {base : Heap} (T : Top K mg)  : Has P w K mg base 1 "_law_draw" s__law_draw ["_law_pool_here", "_law_most"] g__law_draw := by
  refine has_defA (x := "_law_draw") (N := ["_law_pool_here", "_law_most", "_law_state", "_law_digit"]) (b := b__law_draw) T.d__law_draw S__law_draw (ks := [some .local, some .local, some .local, some .local]) (own := [0, 1, 2, 3]) (by decide +kernel) (by decide) (fun _ _ _ _ _ _ us hl => by obtain ⟨a0, a1, rfl⟩ := len2 hl; rfl) fun X E hP hw hK hm hb C => ?_
  subst hP hw hK hm hb
  exact jss_cons (js_asg (je_bin od_add (je_ix (cv C 0) (je_int)) (je_int)) (jg_sub (cv C 0) (je_int))) (jss_cons (cset C 2 (je_ix (cv C 0) (je_int))) (jss_cons (js_asg (je_bin od_mod (je_bin od_add (je_bin od_mulT (cv C 2) (je_bin od_add (je_bin od_mod (cv C 2) (je_int)) (je_int))) (je_bin od_mulT (je_int) (je_ix (cv C 0) (je_int)))) (je_int)) (jg_sub (cv C 0) (je_int))) (jss_cons (js_if (jt_cmp od_gt (je_ix (cv C 0) (je_int)) (je_int) (by rfl)) (jss_cons (js_asg (cbi C oc_divmod T.z_divmod bt_divmod (ja_cons (je_ix (cv C 0) (je_int)) (ja_cons (cv C 1) (ja_nil)))) (gtup C (jgs_cons (jg_sub (cv C 0) (je_int)) (jgs_cons (cg C 3) (jgs_nil))))) (jss_one (js_ret (cv C 3)))) (jss_nil)) (jss_one (js_ret (je_bin od_mod (je_bin od_div (je_ix (cv C 0) (je_int)) (je_int)) (cv C 1)))))))
/-! _law_times -/
theorem S__law_times : FnScope ["_law_pool_here", "_law_small"] ["_law_pool_here", "_law_small"] (defScope s__law_times) := ⟨rfl, rfl, rfl, by decide +kernel, rfl, by decide +kernel, by decide +kernel⟩
def b__law_times : SS := sSeq (sIf (fTru (fVar 1)) (sRet (fBin dAdd (fC (.int 1)) (fCallD 2 g__law_draw (fsCons (fVar 0) (fsCons (fC (.int 3)) (fsNil)))))) (sNil)) (sRet (fBin (pure2 ixO) (fLst (fsCons (fC (.int 1)) (fsCons (fC (.int 2)) (fsCons (fC (.int 3)) (fsCons (fBin dAdd (fC (.int 4)) (fCallD 2 g__law_draw (fsCons (fVar 0) (fsCons (fC (.int 9)) (fsNil))))) (fsCons (fBin dAdd (fC (.int 1)) (fCallD 2 g__law_draw (fsCons (fVar 0) (fsCons (fBin dPow (fC (.int 10)) (fC (.int 12))) (fsNil))))) (fsCons (fBin dPow (fC (.int 10)) (fC (.int 30))) (fsNil)))))))) (fCallD 2 g__law_draw (fsCons (fVar 0) (fsCons (fC (.int 6)) (fsNil))))))
def g__law_times : List D → Mem → Out D := fDef 2 b__law_times
theorem h__law_times {P : Program} {w : World} {K : PySem.W.Frag} {mg : Str → Option Value} {base : Heap} (T : Top K mg) (h__law_draw : Has P w K mg base 1 "_law_draw" s__law_draw ["_law_pool_here", "_law_most"] g__law_draw) : Has P w K mg base 2 "_law_times" s__law_times ["_law_pool_here", "_law_small"] g__law_times := by
  refine has_defA (x := "_law_times") (N := ["_law_pool_here", "_law_small"]) (b := b__law_times) T.d__law_times S__law_times (ks := [some .local, some .local]) (own := [0, 1]) (by decide +kernel) (by decide) (fun _ _ _ _ _ _ us hl => by obtain ⟨a0, a1, rfl⟩ := len2 hl; rfl) fun X E hP hw hK hm hb C => ?_
  subst hP hw hK hm hb
  exact jss_cons (js_if (jt_tru (cv C 1)) (jss_one (js_ret (je_bin od_add (je_int) (ccall C h__law_draw (ja_cons (cv C 0) (ja_cons (je_int) (ja_nil))))))) (jss_nil)) (jss_one (js_ret (je_ix (je_lst (ja_cons (je_int) (ja_cons (je_int) (ja_cons (je_int) (ja_cons (je_bin od_add (je_int) (ccall C h__law_draw (ja_cons (cv C 0) (ja_cons (je_int) (ja_nil))))) (ja_cons (je_bin od_add (je_int) (ccall C h__law_draw (ja_cons (cv C 0) (ja_cons (je_bin od_pow (je_int) (je_int)) (ja_nil))))) (ja_cons (je_bin od_pow (je_int) (je_int)) (ja_nil)))))))) (ccall C h__law_draw (ja_cons (cv C 0) (ja_cons (je_int) (ja_nil)))))))
/-! _law_word -/
theorem S__law_word : FnScope ["_law_pool_here", "_law_most", "_law_many", "_law_stretch", "_law_found"] ["_law_pool_here", "_law_most"] (defScope s__law_word) := ⟨rfl, rfl, rfl, by decide +kernel, rfl, by decide +kernel, by decide +kernel⟩
def p__law_word_1 : SS := sAsg (fBin dAdd (fVar 4) (fBin dMulS (fBin (pure2 ixO) (fC (.str [82, 67])) (fCallD 2 g__law_draw (fsCons (fVar 0) (fsCons (fC (.int 2)) (fsNil))))) (fBin dAdd (fC (.int 1)) (fCallD 2 g__law_draw (fsCons (fVar 0) (fsCons (fVar 3) (fsNil))))))) (gSet 4)
def t__law_word_2 : SB := asB (fBin dLt (fCall (pureC cLen) (fsCons (fVar 4) (fsNil))) (fVar 2))
def b__law_word : SS := sSeq (sPar3 2 3 4 (fsCons (fCallD 2 g__law_draw (fsCons (fVar 0) (fsCons (fBin dAdd (fVar 1) (fC (.int 1))) (fsNil)))) (fsCons (fBin dAdd (fC (.int 1)) (fCallD 2 g__law_draw (fsCons (fVar 0) (fsCons (fC (.int 3)) (fsNil))))) (fsCons (fC (.str [])) (fsNil))))) (sSeq (sWhileN (t__law_word_2) (p__law_word_1) 1000000) (sRet (fSl (fVar 4) (oNone) (oSome (fVar 2)))))
def g__law_word : List D → Mem → Out D := fDef 5 b__law_word
theorem h__law_word {P : Program} {w : World} {K : PySem.W.Frag} {mg : Str → Option Value} {base : Heap} (T : Top K mg) (h__law_draw : Has P w K mg base 1 "_law_draw" s__law_draw ["_law_pool_here", "_law_most"] g__law_draw) : Has P w K mg base 2 "_law_word" s__law_word ["_law_pool_here", "_law_most"] g__law_word := by
  refine has_defA (x := "_law_word") (N := ["_law_pool_here", "_law_most", "_law_many", "_law_stretch", "_law_found"]) (b := b__law_word) T.d__law_word S__law_word (ks := [some .local, some .local, some .local, some .local, some .local]) (own := [0, 1, 2, 3, 4]) (by decide +kernel) (by decide) (fun _ _ _ _ _ _ us hl => by obtain ⟨a0, a1, rfl⟩ := len2 hl; rfl) fun X E hP hw hK hm hb C => ?_
  subst hP hw hK hm hb
  exact jss_cons (cpar3 C 2 3 4 (ja_cons (ccall C h__law_draw (ja_cons (cv C 0) (ja_cons (je_bin od_add (cv C 1) (je_int)) (ja_nil)))) (ja_cons (je_bin od_add (je_int) (ccall C h__law_draw (ja_cons (cv C 0) (ja_cons (je_int) (ja_nil))))) (ja_cons (cs) (ja_nil))))) (jss_cons (cwhile C 1000000 (jt_cmp (od_lt C.hu0) (cbi C oc_len T.z_len bt_len (ja_cons (cv C 4) (ja_nil))) (cv C 2) (by rfl)) (jss_one (cset C 4 (je_bin od_add (cv C 4) (je_bin od_mulS (je_ix (cs) (ccall C h__law_draw (ja_cons (cv C 0) (ja_cons (je_int) (ja_nil))))) (je_bin od_add (je_int) (ccall C h__law_draw (ja_cons (cv C 0) (ja_cons (cv C 3) (ja_nil)))))))))) (jss_one (js_ret (je_slice (cv C 4) (jo_none) (jo_some (cv C 2))))))
/-! _law_steps -/
theorem S__law_steps : FnScope ["_law_step", "_law_inner"] ["_law_step"] (defScope s__law_steps) := ⟨rfl, rfl, rfl, by decide +kernel, rfl, by decide +kernel, by decide +kernel⟩
def e__law_steps_1 (r__law_steps : List D → Mem → Out D) : SF := fCallD 1 r__law_steps (fsCons (fVar 1) (fsNil))
def b__law_steps (r__law_steps : List D → Mem → Out D) : SS := sRet (fIf (fTru (fCall (pureC cIsi) (fsCons (fVar 0) (fsCons (fC (.ty "str")) (fsNil))))) (fC (.int 1)) (fBin dAdd (fC (.int 1)) (fCall (pureC cSumT) (fsCons (fLc [1] (iOf (fBin (pure2 ixO) (fVar 0) (fC (.int 2)))) (gSet 1) (bYes) ((e__law_steps_1 r__law_steps))) (fsNil)))))
def g__law_steps : Nat → List D → Mem → Out D
  | 0 => fun _ _ => .bad
  | n + 1 => fDef 2 (b__law_steps (g__law_steps n))
theorem hc__law_steps {P : Program} {w : World} {K : PySem.W.Frag} {mg : Str → Option Value} {base : Heap} (T : Top K mg)  : ∀ n : Nat, Has P w K mg base (1 + n) "_law_steps" s__law_steps ["_law_step"] (g__law_steps n) := by
  intro n
  induction n with
  | zero => exact has_bad (x := "_law_steps") T.d__law_steps S__law_steps (fun _ _ _ _ _ _ us hl => by obtain ⟨a0, rfl⟩ := len1 hl; rfl)
  | succ n ih =>
    have hr__law_steps := ih
    refine has_defA (k := 1 + n) (x := "_law_steps") (N := ["_law_step", "_law_inner"]) (b := b__law_steps (g__law_steps n)) T.d__law_steps S__law_steps (ks := [some .local, none]) (own := [0]) (by decide +kernel) (by decide) (fun _ _ _ _ _ _ us hl => by obtain ⟨a0, rfl⟩ := len1 hl; rfl) fun X E hP hw hK hm hb C => ?_
    subst hP hw hK hm hb
    exact jss_one (js_ret (je_if (jt_tru (cbi C oc_isi T.z_isinstance bt_isinstance (ja_cons (cv C 0) (ja_cons (ctn C T.z_str bt_str) (ja_nil))))) (je_int) (je_bin od_add (je_int) (cbi C (oc_sumT C.calm) T.z_sum bt_sum (ja_cons (clc C [("_law_inner", 1)] [none, some .local] (ji_of (je_ix (cv C 0) (je_int))) (fun _ _ _ _ _ C1 => ⟨cg C1 1, jts_nil, ccall C1 hr__law_steps (ja_cons (cv C1 1) (ja_nil)) (hj := by omega)⟩)) (ja_nil))))))
theorem h__law_steps {P : Program} {w : World} {K : PySem.W.Frag} {mg : Str → Option Value} {base : Heap} (T : Top K mg)  : Has P w K mg base 13 "_law_steps" s__law_steps ["_law_step"] (g__law_steps 12) := (hc__law_steps (P := P) (w := w) (base := base) T  12)
/-! _law_program -/
theorem S__law_program : FnScope ["_law_pool_here", "_law_deep", "_law_most", "_law_small", "_law_found", "_law_left"] ["_law_pool_here", "_law_deep", "_law_most", "_law_small"] (defScope s__law_program) := ⟨rfl, rfl, rfl, by decide +kernel, rfl, by decide +kernel, by decide +kernel⟩
def p__law_program_1 (r__law_program : List D → Mem → Out D) : SS := sSeq (sIf (bAnd (asB (fBin dEqS (fCallD 2 g__law_draw (fsCons (fVar 0) (fsCons (fC (.int 4)) (fsNil)))) (fC (.int 3)))) (asB (fBin dGt (fVar 1) (fC (.int 1))))) (sExpr (fMt "list" mAppend (fVar 4) (fsCons (fTup (fsCons (fC (.str [114, 101, 112, 101, 97, 116])) (fsCons (fCallD 2 g__law_times (fsCons (fVar 0) (fsCons (fVar 3) (fsNil)))) (fsCons (fCallD 4 r__law_program (fsCons (fVar 0) (fsCons (fBin dSub (fVar 1) (fC (.int 1))) (fsCons (fBin dSub (fVar 5) (fC (.int 1))) (fsCons (fVar 3) (fsNil)))))) (fsNil))))) (fsNil)))) (sExpr (fMt "list" mAppend (fVar 4) (fsCons (fBin dAdd (fBin (pure2 ixO) (fC (.str [82, 67])) (fCallD 2 g__law_draw (fsCons (fVar 0) (fsCons (fC (.int 2)) (fsNil))))) (fCallD 2 g__law_word (fsCons (fVar 0) (fsCons (fBin (pure2 ixO) (fLst (fsCons (fC (.int 0)) (fsCons (fC (.int 3)) (fsCons (fC (.int 5)) (fsNil))))) (fCallD 2 g__law_draw (fsCons (fVar 0) (fsCons (fC (.int 3)) (fsNil))))) (fsNil))))) (fsNil))))) (sAsg (fBin dSub (fVar 5) (fCallD 1 (g__law_steps 12) (fsCons (fBin (pure2 ixO) (fVar 4) (fUn uNeg (fC (.int 1)))) (fsNil)))) (gSet 5))
def b__law_program (r__law_program : List D → Mem → Out D) : SS := sSeq (sPar 4 5 (fsCons (fLstN (fsNil)) (fsCons (fCallD 2 g__law_draw (fsCons (fVar 0) (fsCons (fBin dAdd (fVar 2) (fC (.int 1))) (fsNil)))) (fsNil)))) (sSeq (sWhileN (asB (fBin dGt (fVar 5) (fC (.int 0)))) ((p__law_program_1 r__law_program)) 1000000) (sRet (fCall (cTuple) (fsCons (fVar 4) (fsNil)))))
def g__law_program : Nat → List D → Mem → Out D
  | 0 => fun _ _ => .bad
  | n + 1 => fDef 6 (b__law_program (g__law_program n))
theorem hc__law_program {P : Program} {w : World} {K : PySem.W.Frag} {mg : Str → Option Value} {base : Heap} (T : Top K mg) (h__law_draw : Has P w K mg base 1 "_law_draw" s__law_draw ["_law_pool_here", "_law_most"] g__law_draw) (h__law_times : Has P w K mg base 2 "_law_times" s__law_times ["_law_pool_here", "_law_small"] g__law_times) (h__law_word : Has P w K mg base 2 "_law_word" s__law_word ["_law_pool_here", "_law_most"] g__law_word) (h__law_steps : Has P w K mg base 13 "_law_steps" s__law_steps ["_law_step"] (g__law_steps 12)) : ∀ n : Nat, Has P w K mg base (14 + n) "_law_program" s__law_program ["_law_pool_here", "_law_deep", "_law_most", "_law_small"] (g__law_program n) := by
  intro n
  induction n with
  | zero => exact has_bad (x := "_law_program") T.d__law_program S__law_program (fun _ _ _ _ _ _ us hl => by obtain ⟨a0, a1, a2, a3, rfl⟩ := len4 hl; rfl)
  | succ n ih =>
    have hr__law_program := ih
    refine has_defA (k := 14 + n) (x := "_law_program") (N := ["_law_pool_here", "_law_deep", "_law_most", "_law_small", "_law_found", "_law_left"]) (b := b__law_program (g__law_program n)) T.d__law_program S__law_program (ks := [some .local, some .local, some .local, some .local, some .local, some .local]) (own := [0, 1, 2, 3, 4, 5]) (by decide +kernel) (by decide) (fun _ _ _ _ _ _ us hl => by obtain ⟨a0, a1, a2, a3, rfl⟩ := len4 hl; rfl) fun X E hP hw hK hm hb C => ?_
    subst hP hw hK hm hb
    exact jss_cons (cpar2 C 4 5 (ja_cons (je_lstN (ja_nil)) (ja_cons (ccall C h__law_draw (ja_cons (cv C 0) (ja_cons (je_bin od_add (cv C 2) (je_int)) (ja_nil))) (hj := by omega)) (ja_nil)))) (jss_cons (cwhile C 1000000 (jt_cmp od_gt (cv C 5) (je_int) (by rfl)) (jss_cons (js_if (jw_pt (jw_and (jt_cmp (od_eqS C.hu64) (ccall C h__law_draw (ja_cons (cv C 0) (ja_cons (je_int) (ja_nil))) (hj := by omega)) (je_int) (by rfl)) (jw_and1 (jt_cmp od_gt (cv C 1) (je_int) (by rfl))))) (jss_one (js_expr (je_bm PySem.F.plainAttrs_list PySem.F.slot_list_append PySem.F.type_list_append om_append (cv C 4) (ja_cons (je_tup (ja_cons (cs) (ja_cons (ccall C h__law_times (ja_cons (cv C 0) (ja_cons (cv C 3) (ja_nil))) (hj := by omega)) (ja_cons (ccall C hr__law_program (ja_cons (cv C 0) (ja_cons (je_bin od_sub (cv C 1) (je_int)) (ja_cons (je_bin od_sub (cv C 5) (je_int)) (ja_cons (cv C 3) (ja_nil))))) (hj := by omega)) (ja_nil))))) (ja_nil))))) (jss_one (js_expr (je_bm PySem.F.plainAttrs_list PySem.F.slot_list_append PySem.F.type_list_append om_append (cv C 4) (ja_cons (je_bin od_add (je_ix (cs) (ccall C h__law_draw (ja_cons (cv C 0) (ja_cons (je_int) (ja_nil))) (hj := by omega))) (ccall C h__law_word (ja_cons (cv C 0) (ja_cons (je_ix (je_lst (ja_cons (je_int) (ja_cons (je_int) (ja_cons (je_int) (ja_nil))))) (ccall C h__law_draw (ja_cons (cv C 0) (ja_cons (je_int) (ja_nil))) (hj := by omega))) (ja_nil))) (hj := by omega))) (ja_nil)))))) (jss_one (cset C 5 (je_bin od_sub (cv C 5) (ccall C h__law_steps (ja_cons (je_ix (cv C 4) (je_neg (je_int))) (ja_nil)) (hj := by omega))))))) (jss_one (js_ret (cty C oc_tuple T.z_tuple bt_tuple (ja_cons (cv C 4) (ja_nil))))))
theorem h__law_program {P : Program} {w : World} {K : PySem.W.Frag} {mg : Str → Option Value} {base : Heap} (T : Top K mg) (h__law_draw : Has P w K mg base 1 "_law_draw" s__law_draw ["_law_pool_here", "_law_most"] g__law_draw) (h__law_times : Has P w K mg base 2 "_law_times" s__law_times ["_law_pool_here", "_law_small"] g__law_times) (h__law_word : Has P w K mg base 2 "_law_word" s__law_word ["_law_pool_here", "_law_most"] g__law_word) (h__law_steps : Has P w K mg base 13 "_law_steps" s__law_steps ["_law_step"] (g__law_steps 12)) : Has P w K mg base 26 "_law_program" s__law_program ["_law_pool_here", "_law_deep", "_law_most", "_law_small"] (g__law_program 12) := (hc__law_program (P := P) (w := w) (base := base) T h__law_draw h__law_times h__law_word h__law_steps 12)
/-! _law_bent -/
theorem S__law_bent : FnScope ["_law_pool_here", "_law_parts", "_law_odd", "_law_way", "_law_at", "_law_thing", "_law_turn"] ["_law_pool_here", "_law_parts"] (defScope s__law_bent) := ⟨rfl, rfl, rfl, by decide +kernel, rfl, by decide +kernel, by decide +kernel⟩
def p__law_bent_1 : SS := sAsg (fTup (fsCons (fTup (fsCons (fC (.str [114, 101, 112, 101, 97, 116])) (fsCons (fBin dAdd (fC (.int 1)) (fCallD 2 g__law_draw (fsCons (fVar 0) (fsCons (fC (.int 3)) (fsNil))))) (fsCons (fVar 1) (fsNil))))) (fsNil))) (gSet 1)
def b__law_bent : SS := sSeq (sAsg (fLst (fsCons (fC (.str [])) (fsCons (fC (.str [114])) (fsCons (fC (.str [82, 67, 88])) (fsCons (fBin dMulS (fC (.str [82])) (fC (.int 401))) (fsCons (fC (.str [32, 82])) (fsCons (fC .non) (fsCons (fC (.int 5)) (fsCons (fC (.bl true)) (fsCons (fTup (fsCons (fC (.str [82])) (fsNil))) (fsCons (fLst (fsCons (fC (.str [82])) (fsNil))) (fsCons (fDctN) (fsCons (fTup (fsCons (fC (.str [114, 101, 112, 101, 97, 116])) (fsCons (fC (.int 0)) (fsCons (fTup (fsNil)) (fsNil))))) (fsCons (fTup (fsCons (fC (.str [114, 101, 112, 101, 97, 116])) (fsCons (fC (.bl true)) (fsCons (fTup (fsNil)) (fsNil))))) (fsNil))))))))))))))) (gSet 2)) (sSeq (sAsg (fBin dAdd (fVar 2) (fLst (fsCons (fTup (fsCons (fC (.str [114, 101, 112, 101, 97, 116])) (fsCons (fBin dAdd (fBin dPow (fC (.int 10)) (fC (.int 30))) (fC (.int 1))) (fsCons (fTup (fsCons (fC (.str [82])) (fsNil))) (fsNil))))) (fsCons (fTup (fsCons (fC (.str [114, 101, 112, 101, 97, 116])) (fsCons (fC (.int 2)) (fsCons (fC (.str [82])) (fsNil))))) (fsCons (fTup (fsCons (fC (.str [114, 101, 112, 101, 97, 116])) (fsCons (fC (.int 2)) (fsCons (fLst (fsCons (fC (.str [82])) (fsNil))) (fsNil))))) (fsCons (fTup (fsCons (fC (.str [114, 101, 112, 101, 97, 116])) (fsCons (fC (.int 2)) (fsNil)))) (fsNil))))))) (gSet 2)) (sSeq (sAsg (fBin dAdd (fVar 2) (fLst (fsCons (fTup (fsCons (fC (.str [114, 101, 112, 101, 97, 116])) (fsCons (fC (.int 2)) (fsCons (fTup (fsCons (fC (.str [82])) (fsNil))) (fsCons (fTup (fsNil)) (fsNil)))))) (fsCons (fTup (fsCons (fC (.str [97, 103, 97, 105, 110])) (fsCons (fC (.int 2)) (fsCons (fTup (fsNil)) (fsNil))))) (fsCons (fTup (fsCons (fC (.int 2)) (fsCons (fC (.str [114, 101, 112, 101, 97, 116])) (fsCons (fTup (fsNil)) (fsNil))))) (fsCons (fTup (fsCons (fC (.str [114, 101, 112, 101, 97, 116])) (fsCons (fUn uNeg (fC (.int 1))) (fsCons (fTup (fsNil)) (fsNil))))) (fsNil))))))) (gSet 2)) (sSeq (sAsg (fBin dAdd (fVar 2) (fLst (fsCons (fTup (fsCons (fC (.str [114, 101, 112, 101, 97, 116])) (fsCons (fC (.int 2)) (fsCons (fTup (fsCons (fTup (fsCons (fC (.str [114, 101, 112, 101, 97, 116])) (fsCons (fC (.int 2)) (fsCons (fTup (fsCons (fC (.str [])) (fsNil))) (fsNil))))) (fsNil))) (fsNil))))) (fsCons (fTup (fsCons (fC (.str [114, 101, 112, 101, 97, 116])) (fsCons (fC .non) (fsCons (fTup (fsNil)) (fsNil))))) (fsCons (fTup (fsCons (fC (.str [114, 101, 112, 101, 97, 116])) (fsCons (fC (.str [50])) (fsCons (fTup (fsCons (fC (.str [67])) (fsNil))) (fsNil))))) (fsNil)))))) (gSet 2)) (sSeq (sPar3 3 4 5 (fsCons (fCallD 2 g__law_draw (fsCons (fVar 0) (fsCons (fC (.int 6)) (fsNil)))) (fsCons (fCallD 2 g__law_draw (fsCons (fVar 0) (fsCons (fBin dAdd (fCall (pureC cLen) (fsCons (fVar 1) (fsNil))) (fC (.int 1))) (fsNil)))) (fsCons (fBin (pure2 ixO) (fVar 2) (fCallD 2 g__law_draw (fsCons (fVar 0) (fsCons (fCall (pureC cLen) (fsCons (fVar 2) (fsNil))) (fsNil))))) (fsNil))))) (sSeq (sIf (asB (fBin dLt (fVar 3) (fC (.int 2)))) (sRet (fBin dAdd (fBin dAdd (fSl (fVar 1) (oNone) (oSome (fVar 4))) (fTup (fsCons (fVar 5) (fsNil)))) (fSl (fVar 1) (oSome (fBin dSub (fBin dAdd (fVar 4) (fC (.int 1))) (fVar 3))) (oNone)))) (sNil)) (sSeq (sIf (asB (fBin dEqS (fVar 3) (fC (.int 2)))) (sSeq (sFor (iRange1 (fsCons (fBin dAdd (fC (.int 1)) (fCallD 2 g__law_draw (fsCons (fVar 0) (fsCons (fC (.int 2)) (fsNil))))) (fsNil))) (gSet 6) (p__law_bent_1)) (sRet (fVar 1))) (sNil)) (sSeq (sIf (asB (fBin dEqS (fVar 3) (fC (.int 3)))) (sRet (fBin dMulT (fVar 1) (fBin dAdd (fC (.int 2)) (fCallD 2 g__law_draw (fsCons (fVar 0) (fsCons (fC (.int 9)) (fsNil))))))) (sNil)) (sSeq (sIf (asB (fBin dEqS (fVar 3) (fC (.int 4)))) (sRet (fBin (pure2 ixO) (fLst (fsCons (fCall (cList) (fsCons (fVar 1) (fsNil))) (fsCons (fC .non) (fsCons (fC (.str [82])) (fsCons (fC (.int 7)) (fsCons (fDctN) (fsCons (fC (.bl true)) (fsCons (fTup (fsCons (fC (.str [114, 101, 112, 101, 97, 116])) (fsCons (fC (.int 2)) (fsCons (fTup (fsNil)) (fsNil))))) (fsNil))))))))) (fCallD 2 g__law_draw (fsCons (fVar 0) (fsCons (fC (.int 7)) (fsNil)))))) (sNil)) (sRet (fBin dAdd (fTup (fsCons (fTup (fsCons (fC (.str [114, 101, 112, 101, 97, 116])) (fsCons (fC (.int 2)) (fsCons (fBin dAdd (fSl (fVar 1) (oNone) (oSome (fVar 4))) (fTup (fsCons (fVar 5) (fsNil)))) (fsNil))))) (fsNil))) (fSl (fVar 1) (oSome (fVar 4)) (oNone))))))))))))
def g__law_bent : List D → Mem → Out D := fDef 7 b__law_bent
theorem h__law_bent {P : Program} {w : World} {K : PySem.W.Frag} {mg : Str → Option Value} {base : Heap} (T : Top K mg) (h__law_draw : Has P w K mg base 1 "_law_draw" s__law_draw ["_law_pool_here", "_law_most"] g__law_draw) : Has P w K mg base 2 "_law_bent" s__law_bent ["_law_pool_here", "_law_parts"] g__law_bent := by
  refine has_defA (x := "_law_bent") (N := ["_law_pool_here", "_law_parts", "_law_odd", "_law_way", "_law_at", "_law_thing", "_law_turn"]) (b := b__law_bent) T.d__law_bent S__law_bent (ks := [some .local, some .local, some .local, some .local, some .local, some .local, some .local]) (own := [0, 1, 2, 3, 4, 5, 6]) (by decide +kernel) (by decide) (fun _ _ _ _ _ _ us hl => by obtain ⟨a0, a1, rfl⟩ := len2 hl; rfl) fun X E hP hw hK hm hb C => ?_
  subst hP hw hK hm hb
  exact jss_cons (cset C 2 (je_lst (ja_cons (cs) (ja_cons (cs) (ja_cons (cs) (ja_cons (je_bin od_mulS (cs) (je_int)) (ja_cons (cs) (ja_cons (je_non) (ja_cons (je_int) (ja_cons (je_bl) (ja_cons (je_tup (ja_cons (cs) (ja_nil))) (ja_cons (je_lst (ja_cons (cs) (ja_nil))) (ja_cons (je_dct) (ja_cons (je_tup (ja_cons (cs) (ja_cons (je_int) (ja_cons (je_tup (ja_nil)) (ja_nil))))) (ja_cons (je_tup (ja_cons (cs) (ja_cons (je_bl) (ja_cons (je_tup (ja_nil)) (ja_nil))))) (ja_nil)))))))))))))))) (jss_cons (cset C 2 (je_bin od_add (cv C 2) (je_lst (ja_cons (je_tup (ja_cons (cs) (ja_cons (je_bin od_add (je_bin od_pow (je_int) (je_int)) (je_int)) (ja_cons (je_tup (ja_cons (cs) (ja_nil))) (ja_nil))))) (ja_cons (je_tup (ja_cons (cs) (ja_cons (je_int) (ja_cons (cs) (ja_nil))))) (ja_cons (je_tup (ja_cons (cs) (ja_cons (je_int) (ja_cons (je_lst (ja_cons (cs) (ja_nil))) (ja_nil))))) (ja_cons (je_tup (ja_cons (cs) (ja_cons (je_int) (ja_nil)))) (ja_nil)))))))) (jss_cons (cset C 2 (je_bin od_add (cv C 2) (je_lst (ja_cons (je_tup (ja_cons (cs) (ja_cons (je_int) (ja_cons (je_tup (ja_cons (cs) (ja_nil))) (ja_cons (je_tup (ja_nil)) (ja_nil)))))) (ja_cons (je_tup (ja_cons (cs) (ja_cons (je_int) (ja_cons (je_tup (ja_nil)) (ja_nil))))) (ja_cons (je_tup (ja_cons (je_int) (ja_cons (cs) (ja_cons (je_tup (ja_nil)) (ja_nil))))) (ja_cons (je_tup (ja_cons (cs) (ja_cons (je_neg (je_int)) (ja_cons (je_tup (ja_nil)) (ja_nil))))) (ja_nil)))))))) (jss_cons (cset C 2 (je_bin od_add (cv C 2) (je_lst (ja_cons (je_tup (ja_cons (cs) (ja_cons (je_int) (ja_cons (je_tup (ja_cons (je_tup (ja_cons (cs) (ja_cons (je_int) (ja_cons (je_tup (ja_cons (cs) (ja_nil))) (ja_nil))))) (ja_nil))) (ja_nil))))) (ja_cons (je_tup (ja_cons (cs) (ja_cons (je_non) (ja_cons (je_tup (ja_nil)) (ja_nil))))) (ja_cons (je_tup (ja_cons (cs) (ja_cons (cs) (ja_cons (je_tup (ja_cons (cs) (ja_nil))) (ja_nil))))) (ja_nil))))))) (jss_cons (cpar3 C 3 4 5 (ja_cons (ccall C h__law_draw (ja_cons (cv C 0) (ja_cons (je_int) (ja_nil)))) (ja_cons (ccall C h__law_draw (ja_cons (cv C 0) (ja_cons (je_bin od_add (cbi C oc_len T.z_len bt_len (ja_cons (cv C 1) (ja_nil))) (je_int)) (ja_nil)))) (ja_cons (je_ix (cv C 2) (ccall C h__law_draw (ja_cons (cv C 0) (ja_cons (cbi C oc_len T.z_len bt_len (ja_cons (cv C 2) (ja_nil))) (ja_nil))))) (ja_nil))))) (jss_cons (js_if (jt_cmp (od_lt C.hu0) (cv C 3) (je_int) (by rfl)) (jss_one (js_ret (je_bin od_add (je_bin od_add (je_slice (cv C 1) (jo_none) (jo_some (cv C 4))) (je_tup (ja_cons (cv C 5) (ja_nil)))) (je_slice (cv C 1) (jo_some (je_bin od_sub (je_bin od_add (cv C 4) (je_int)) (cv C 3))) (jo_none))))) (jss_nil)) (jss_cons (js_if (jt_cmp (od_eqS C.hu64) (cv C 3) (je_int) (by rfl)) (jss_cons (cfor C (crange1 C T.z_range (ja_cons (je_bin od_add (je_int) (ccall C h__law_draw (ja_cons (cv C 0) (ja_cons (je_int) (ja_nil))))) (ja_nil))) (cg C 6) (jss_one (cset C 1 (je_tup (ja_cons (je_tup (ja_cons (cs) (ja_cons (je_bin od_add (je_int) (ccall C h__law_draw (ja_cons (cv C 0) (ja_cons (je_int) (ja_nil))))) (ja_cons (cv C 1) (ja_nil))))) (ja_nil)))))) (jss_one (js_ret (cv C 1)))) (jss_nil)) (jss_cons (js_if (jt_cmp (od_eqS C.hu64) (cv C 3) (je_int) (by rfl)) (jss_one (js_ret (je_bin od_mulT (cv C 1) (je_bin od_add (je_int) (ccall C h__law_draw (ja_cons (cv C 0) (ja_cons (je_int) (ja_nil)))))))) (jss_nil)) (jss_cons (js_if (jt_cmp (od_eqS C.hu64) (cv C 3) (je_int) (by rfl)) (jss_one (js_ret (je_ix (je_lst (ja_cons (cty C oc_list T.z_list bt_list (ja_cons (cv C 1) (ja_nil))) (ja_cons (je_non) (ja_cons (cs) (ja_cons (je_int) (ja_cons (je_dct) (ja_cons (je_bl) (ja_cons (je_tup (ja_cons (cs) (ja_cons (je_int) (ja_cons (je_tup (ja_nil)) (ja_nil))))) (ja_nil))))))))) (ccall C h__law_draw (ja_cons (cv C 0) (ja_cons (je_int) (ja_nil))))))) (jss_nil)) (jss_one (js_ret (je_bin od_add (je_tup (ja_cons (je_tup (ja_cons (cs) (ja_cons (je_int) (ja_cons (je_bin od_add (je_slice (cv C 1) (jo_none) (jo_some (cv C 4))) (je_tup (ja_cons (cv C 5) (ja_nil)))) (ja_nil))))) (ja_nil))) (je_slice (cv C 1) (jo_some (cv C 4)) (jo_none)))))))))))))
/-! _law_right -/
theorem S__law_right : FnScope ["_law_pool_here", "_law_parts", "_law_turn", "_law_once", "_law_twice"] ["_law_pool_here"] (defScope s__law_right) := ⟨rfl, rfl, rfl, by decide +kernel, rfl, by decide +kernel, by decide +kernel⟩
def p__law_right_1 : SS := sSeq (sAsg (fCallD 2 g__law_bent (fsCons (fVar 0) (fsCons (fVar 1) (fsNil)))) (gSet 3)) (sSeq (sIf (bNot (fTru (fCallD 2 g__law_told_right (fsCons (fVar 3) (fsCons (fBin dEqS (fCallD 1 g__law_first_bad (fsCons (fVar 3) (fsNil))) (fLst (fsNil))) (fsNil)))))) (sRet (fC (.bl false))) (sNil)) (sIf (fTru (fCall (pureC cIsi) (fsCons (fVar 3) (fsCons (fC (.ty "tuple")) (fsNil))))) (sSeq (sAsg (fCallD 2 g__law_bent (fsCons (fVar 0) (fsCons (fVar 3) (fsNil)))) (gSet 4)) (sIf (bNot (fTru (fCallD 2 g__law_told_right (fsCons (fVar 4) (fsCons (fBin dEqS (fCallD 1 g__law_first_bad (fsCons (fVar 4) (fsNil))) (fLst (fsNil))) (fsNil)))))) (sRet (fC (.bl false))) (sNil))) (sNil)))
def b__law_right : SS := sSeq (sAsg (fCallD 4 (g__law_program 12) (fsCons (fVar 0) (fsCons (fC (.int 5)) (fsCons (fC (.int 60)) (fsCons (fC (.bl false)) (fsNil)))))) (gSet 1)) (sSeq (sIf (bNot (fTru (fCallD 2 g__law_told_right (fsCons (fVar 1) (fsCons (fC (.bl true)) (fsNil)))))) (sRet (fC (.bl false))) (sNil)) (sSeq (sFor (iRange1 (fsCons (fC (.int 12)) (fsNil))) (gSet 2) (p__law_right_1)) (sRet (fC (.bl true)))))
def g__law_right : List D → Mem → Out D := fDef 5 b__law_right
theorem h__law_right {P : Program} {w : World} {K : PySem.W.Frag} {mg : Str → Option Value} {base : Heap} (T : Top K mg) (h__law_told_right : Has P w K mg base 17 "_law_told_right" s__law_told_right ["_law_thing", "_law_due"] g__law_told_right) (h__law_first_bad : Has P w K mg base 15 "_law_first_bad" s__law_first_bad ["_law_thing"] g__law_first_bad) (h__law_program : Has P w K mg base 26 "_law_program" s__law_program ["_law_pool_here", "_law_deep", "_law_most", "_law_small"] (g__law_program 12)) (h__law_bent : Has P w K mg base 2 "_law_bent" s__law_bent ["_law_pool_here", "_law_parts"] g__law_bent) : Has P w K mg base 27 "_law_right" s__law_right ["_law_pool_here"] g__law_right := by
  refine has_defA (x := "_law_right") (N := ["_law_pool_here", "_law_parts", "_law_turn", "_law_once", "_law_twice"]) (b := b__law_right) T.d__law_right S__law_right (ks := [some .local, some .local, some .local, some .local, some .local]) (own := [0, 1, 2, 3, 4]) (by decide +kernel) (by decide) (fun _ _ _ _ _ _ us hl => by obtain ⟨a0, rfl⟩ := len1 hl; rfl) fun X E hP hw hK hm hb C => ?_
  subst hP hw hK hm hb
  exact jss_cons (cset C 1 (ccall C h__law_program (ja_cons (cv C 0) (ja_cons (je_int) (ja_cons (je_int) (ja_cons (je_bl) (ja_nil))))))) (jss_cons (js_if (jt_not (jt_tru (ccall C h__law_told_right (ja_cons (cv C 1) (ja_cons (je_bl) (ja_nil)))))) (jss_one (js_ret (je_bl))) (jss_nil)) (jss_cons (cfor C (crange1 C T.z_range (ja_cons (je_int) (ja_nil))) (cg C 2) (jss_cons (cset C 3 (ccall C h__law_bent (ja_cons (cv C 0) (ja_cons (cv C 1) (ja_nil))))) (jss_cons (js_if (jt_not (jt_tru (ccall C h__law_told_right (ja_cons (cv C 3) (ja_cons (je_cmp (od_eqS C.hu64) (ccall C h__law_first_bad (ja_cons (cv C 3) (ja_nil))) (je_lst (ja_nil)) (by rfl)) (ja_nil)))))) (jss_one (js_ret (je_bl))) (jss_nil)) (jss_one (js_if (jt_tru (cbi C oc_isi T.z_isinstance bt_isinstance (ja_cons (cv C 3) (ja_cons (ctn C T.z_tuple bt_tuple) (ja_nil))))) (jss_cons (cset C 4 (ccall C h__law_bent (ja_cons (cv C 0) (ja_cons (cv C 3) (ja_nil))))) (jss_one (js_if (jt_not (jt_tru (ccall C h__law_told_right (ja_cons (cv C 4) (ja_cons (je_cmp (od_eqS C.hu64) (ccall C h__law_first_bad (ja_cons (cv C 4) (ja_nil))) (je_lst (ja_nil)) (by rfl)) (ja_nil)))))) (jss_one (js_ret (je_bl))) (jss_nil)))) (jss_nil)))))) (jss_one (js_ret (je_bl)))))
/-! _law_pool -/
theorem S__law_pool : FnScope ["_law_number", "_law_digits"] ["_law_number"] (defScope s__law_pool) := ⟨rfl, rfl, rfl, by decide +kernel, rfl, by decide +kernel, by decide +kernel⟩
def b__law_pool : SS := sSeq (sAsg (fIf (bOr (asB (fBin dLt (fVar 0) (fC (.int 0)))) (asB (fBin dGe (fVar 0) (fBin dPow (fC (.int 10)) (fC (.int 18)))))) (fCall (pureC cAbs) (fsCons (fVar 0) (fsNil))) (fC (.int 0))) (gSet 1)) (sRet (fLstN (fsCons (fBin dMod (fVar 0) (fC (.int 2147483249))) (fsCons (fVar 1) (fsCons (fC (.int 0)) (fsNil))))))
def g__law_pool : List D → Mem → Out D := fDef 2 b__law_pool
theorem h__law_pool {P : Program} {w : World} {K : PySem.W.Frag} {mg : Str → Option Value} {base : Heap} (T : Top K mg)  : Has P w K mg base 1 "_law_pool" s__law_pool ["_law_number"] g__law_pool := by
  refine has_defA (x := "_law_pool") (N := ["_law_number", "_law_digits"]) (b := b__law_pool) T.d__law_pool S__law_pool (ks := [some .local, some .local]) (own := [0, 1]) (by decide +kernel) (by decide) (fun _ _ _ _ _ _ us hl => by obtain ⟨a0, rfl⟩ := len1 hl; rfl) fun X E hP hw hK hm hb C => ?_
  subst hP hw hK hm hb
  exact jss_cons (cset C 1 (je_if (jw_pt (jw_or (jt_cmp (od_lt C.hu0) (cv C 0) (je_int) (by rfl)) (jw_or1 (jt_cmp od_ge (cv C 0) (je_bin od_pow (je_int) (je_int)) (by rfl))))) (cbi C oc_abs T.z_abs bt_abs (ja_cons (cv C 0) (ja_nil))) (je_int))) (jss_one (js_ret (je_lstN (ja_cons (je_bin od_mod (cv C 0) (je_int)) (ja_cons (cv C 1) (ja_cons (je_int) (ja_nil)))))))
/-! _law_cell -/
theorem S__law_cell : FnScope ["_law_script", "_law_k", "_law_state", "_law_number"] ["_law_script", "_law_k"] (defScope s__law_cell) := ⟨rfl, rfl, rfl, by decide +kernel, rfl, by decide +kernel, by decide +kernel⟩
def p__law_cell_1 : SS := sAsg (fBin dMod (fBin dAdd (fBin dMulT (fVar 2) (fC (.int 41221))) (fVar 3)) (fC (.int 2147483249))) (gSet 2)
def b__law_cell : SS := sSeq (sIf (asB (fBin dLt (fVar 1) (fCall (pureC cLen) (fsCons (fVar 0) (fsNil))))) (sRet (fBin (pure2 ixO) (fVar 0) (fVar 1))) (sNil)) (sSeq (sAsg (fBin dMod (fBin dMulT (fC (.int 60013)) (fBin dAdd (fBin dAdd (fBin dMulT (fVar 1) (fVar 1)) (fBin dMulT (fC (.int 5)) (fVar 1))) (fC (.int 3)))) (fC (.int 2147483249))) (gSet 2)) (sSeq (sFor (iOf (fSl (fVar 0) (oNone) (oSome (fC (.int 3))))) (gSet 3) (p__law_cell_1)) (sRet (fVar 2))))
def g__law_cell : List D → Mem → Out D := fDef 4 b__law_cell
theorem h__law_cell {P : Program} {w : World} {K : PySem.W.Frag} {mg : Str → Option Value} {base : Heap} (T : Top K mg)  : Has P w K mg base 1 "_law_cell" s__law_cell ["_law_script", "_law_k"] g__law_cell := by
  refine has_defA (x := "_law_cell") (N := ["_law_script", "_law_k", "_law_state", "_law_number"]) (b := b__law_cell) T.d__law_cell S__law_cell (ks := [some .local, some .local, some .local, some .local]) (own := [0, 1, 2, 3]) (by decide +kernel) (by decide) (fun _ _ _ _ _ _ us hl => by obtain ⟨a0, a1, rfl⟩ := len2 hl; rfl) fun X E hP hw hK hm hb C => ?_
  subst hP hw hK hm hb
  exact jss_cons (js_if (jt_cmp (od_lt C.hu0) (cv C 1) (cbi C oc_len T.z_len bt_len (ja_cons (cv C 0) (ja_nil))) (by rfl)) (jss_one (js_ret (je_ix (cv C 0) (cv C 1)))) (jss_nil)) (jss_cons (cset C 2 (je_bin od_mod (je_bin od_mulT (je_int) (je_bin od_add (je_bin od_add (je_bin od_mulT (cv C 1) (cv C 1)) (je_bin od_mulT (je_int) (cv C 1))) (je_int))) (je_int))) (jss_cons (cfor C (ji_of (je_slice (cv C 0) (jo_none) (jo_some (je_int)))) (cg C 3) (jss_one (cset C 2 (je_bin od_mod (je_bin od_add (je_bin od_mulT (cv C 2) (je_int)) (cv C 3)) (je_int))))) (jss_one (js_ret (cv C 2)))))
/-! law -/
theorem S_law : FnScope ["_law_script", "_law_due", "_law_twins", "_law_thing", "_law_good", "_law_step", "_law_k"] ["_law_script"] (defScope s_law) := ⟨rfl, rfl, rfl, by decide +kernel, rfl, by decide +kernel, by decide +kernel⟩
def p_law_1 : SS := sIf (bOr (bNot (fTru (fCallD 2 g__law_told_right (fsCons (fVar 3) (fsCons (fVar 4) (fsNil)))))) (asB (fBin dNeS (fBin dEqS (fCallD 1 g__law_first_bad (fsCons (fVar 3) (fsNil))) (fLst (fsNil))) (fVar 4)))) (sRet (fC (.bl false))) (sNil)
def p_law_2 : SS := sIf (bNot (fTru (fCallD 2 g__law_told_right (fsCons (fVar 3) (fsCons (fC (.bl false)) (fsNil)))))) (sRet (fC (.bl false))) (sNil)
def p_law_3 : SS := sFor (iOf (fLst (fsCons (fTup (fsCons (fVar 5) (fsNil))) (fsCons (fTup (fsCons (fC (.str [82])) (fsCons (fVar 5) (fsNil)))) (fsCons (fTup (fsCons (fTup (fsCons (fC (.str [114, 101, 112, 101, 97, 116])) (fsCons (fC (.int 2)) (fsCons (fTup (fsCons (fC (.str [82])) (fsCons (fVar 5) (fsNil)))) (fsNil))))) (fsNil))) (fsNil)))))) (gSet 3) (p_law_2)
def e_law_4 : SF := fCallD 1 g__law_right (fsCons (fCallD 1 g__law_pool (fsCons (fCallD 2 g__law_cell (fsCons (fVar 0) (fsCons (fVar 6) (fsNil)))) (fsNil))) (fsNil))
def b_law : SS := sSeq (sAsg (fBin dAdd (fBin dAdd (fBin dMulT (fLst (fsCons (fC (.bl true)) (fsNil))) (fC (.int 5))) (fLst (fsCons (fC (.bl false)) (fsCons (fC (.bl true)) (fsCons (fC (.bl false)) (fsCons (fC (.bl true)) (fsCons (fC (.bl false)) (fsCons (fC (.bl true)) (fsCons (fC (.bl false)) (fsCons (fC (.bl true)) (fsCons (fC (.bl true)) (fsCons (fC (.bl false)) (fsNil))))))))))))) (fLst (fsCons (fC (.bl true)) (fsCons (fC (.bl false)) (fsCons (fC (.bl false)) (fsCons (fC (.bl false)) (fsNil))))))) (gSet 1)) (sSeq (sAsg (fLstN (fsCons (fTup (fsCons (fTup (fsCons (fC (.str [114, 101, 112, 101, 97, 116])) (fsCons (fC (.int 1)) (fsCons (fTup (fsNil)) (fsNil))))) (fsNil))) (fsCons (fTup (fsCons (fTup (fsCons (fC (.str [114, 101, 112, 101, 97, 116])) (fsCons (fC (.bl true)) (fsCons (fTup (fsNil)) (fsNil))))) (fsNil))) (fsCons (fTup (fsCons (fC (.str [82])) (fsCons (fTup (fsCons (fC (.str [114, 101, 112, 101, 97, 116])) (fsCons (fC (.int 1)) (fsCons (fTup (fsCons (fC (.str [67])) (fsNil))) (fsNil))))) (fsNil)))) (fsNil))))) (gSet 2)) (sSeq (sExpr (fMt "list" mAppend (fVar 2) (fsCons (fTup (fsCons (fC (.str [82])) (fsCons (fTup (fsCons (fC (.str [114, 101, 112, 101, 97, 116])) (fsCons (fC (.bl true)) (fsCons (fTup (fsCons (fC (.str [67])) (fsNil))) (fsNil))))) (fsNil)))) (fsNil)))) (sSeq (sFor (iZipD (fsCons (fBin dAdd (fBin dAdd (fCallD 0 g__law_at_limits fsNil) (fVar 2)) (fVar 2)) (fsCons (fBin dAdd (fVar 1) (fBin dMulT (fLst (fsCons (fC (.bl true)) (fsCons (fC (.bl false)) (fsNil)))) (fC (.int 4)))) (fsNil)))) (gTup 2 (gsCons (gSet 3) (gsCons (gSet 4) (gsNil)))) (p_law_1)) (sSeq (sFor (iOf (fLst (fsCons (fTup (fsNil)) (fsCons (fTup (fsCons (fLst (fsNil)) (fsCons (fC (.int 2)) (fsCons (fTup (fsNil)) (fsNil))))) (fsCons (fTup (fsCons (fDctN) (fsCons (fC (.int 2)) (fsCons (fTup (fsCons (fC (.str [82])) (fsNil))) (fsNil))))) (fsCons (fTup (fsCons (fLst (fsNil)) (fsCons (fC (.int 1)) (fsCons (fC (.int 1)) (fsNil))))) (fsNil))))))) (gSet 5) (p_law_3)) (sRet (fCall (pureC cAll) (fsCons (fLc [6] (iRange1 (fsCons (fCall (pureC cMax) (fsCons (fC (.int 2)) (fsCons (fCall (pureC cMin) (fsCons (fCall (pureC cLen) (fsCons (fVar 0) (fsNil))) (fsCons (fC (.int 6)) (fsNil)))) (fsNil)))) (fsNil))) (gSet 6) (bYes) (e_law_4)) (fsNil))))))))
def g_law : List D → Mem → Out D := fDef 7 b_law
theorem h_law {P : Program} {w : World} {K : PySem.W.Frag} {mg : Str → Option Value} {base : Heap} (T : Top K mg) (h__law_at_limits : Has P w K mg base 1 "_law_at_limits" s__law_at_limits [] g__law_at_limits) (h__law_told_right : Has P w K mg base 17 "_law_told_right" s__law_told_right ["_law_thing", "_law_due"] g__law_told_right) (h__law_first_bad : Has P w K mg base 15 "_law_first_bad" s__law_first_bad ["_law_thing"] g__law_first_bad) (h__law_right : Has P w K mg base 27 "_law_right" s__law_right ["_law_pool_here"] g__law_right) (h__law_pool : Has P w K mg base 1 "_law_pool" s__law_pool ["_law_number"] g__law_pool) (h__law_cell : Has P w K mg base 1 "_law_cell" s__law_cell ["_law_script", "_law_k"] g__law_cell) : Has P w K mg base 28 "law" s_law ["_law_script"] g_law := by
  refine has_defA (x := "law") (N := ["_law_script", "_law_due", "_law_twins", "_law_thing", "_law_good", "_law_step", "_law_k"]) (b := b_law) T.d_law S_law (ks := [some .cell, some .local, some .local, some .local, some .local, some .local, none]) (own := [0, 1, 2, 3, 4, 5]) (by decide +kernel) (by decide) (fun _ _ _ _ _ _ us hl => by obtain ⟨a0, rfl⟩ := len1 hl; rfl) fun X E hP hw hK hm hb C => ?_
  subst hP hw hK hm hb
  exact jss_cons (cset C 1 (je_bin od_add (je_bin od_add (je_bin od_mulT (je_lst (ja_cons (je_bl) (ja_nil))) (je_int)) (je_lst (ja_cons (je_bl) (ja_cons (je_bl) (ja_cons (je_bl) (ja_cons (je_bl) (ja_cons (je_bl) (ja_cons (je_bl) (ja_cons (je_bl) (ja_cons (je_bl) (ja_cons (je_bl) (ja_cons (je_bl) (ja_nil))))))))))))) (je_lst (ja_cons (je_bl) (ja_cons (je_bl) (ja_cons (je_bl) (ja_cons (je_bl) (ja_nil)))))))) (jss_cons (cset C 2 (je_lstN (ja_cons (je_tup (ja_cons (je_tup (ja_cons (cs) (ja_cons (je_int) (ja_cons (je_tup (ja_nil)) (ja_nil))))) (ja_nil))) (ja_cons (je_tup (ja_cons (je_tup (ja_cons (cs) (ja_cons (je_bl) (ja_cons (je_tup (ja_nil)) (ja_nil))))) (ja_nil))) (ja_cons (je_tup (ja_cons (cs) (ja_cons (je_tup (ja_cons (cs) (ja_cons (je_int) (ja_cons (je_tup (ja_cons (cs) (ja_nil))) (ja_nil))))) (ja_nil)))) (ja_nil)))))) (jss_cons (js_expr (je_bm PySem.F.plainAttrs_list PySem.F.slot_list_append PySem.F.type_list_append om_append (cv C 2) (ja_cons (je_tup (ja_cons (cs) (ja_cons (je_tup (ja_cons (cs) (ja_cons (je_bl) (ja_cons (je_tup (ja_cons (cs) (ja_nil))) (ja_nil))))) (ja_nil)))) (ja_nil)))) (jss_cons (cfor C (czip C T.z_zip (ja_cons (je_bin od_add (je_bin od_add (ccall0 C h__law_at_limits) (cv C 2)) (cv C 2)) (ja_cons (je_bin od_add (cv C 1) (je_bin od_mulT (je_lst (ja_cons (je_bl) (ja_cons (je_bl) (ja_nil)))) (je_int))) (ja_nil)))) (gtup C (jgs_cons (cg C 3) (jgs_cons (cg C 4) (jgs_nil)))) (jss_one (js_if (jw_pt (jw_or (jt_not (jt_tru (ccall C h__law_told_right (ja_cons (cv C 3) (ja_cons (cv C 4) (ja_nil)))))) (jw_or1 (jt_cmp (od_neS C.hu64) (je_cmp (od_eqS C.hu64) (ccall C h__law_first_bad (ja_cons (cv C 3) (ja_nil))) (je_lst (ja_nil)) (by rfl)) (cv C 4) (by rfl))))) (jss_one (js_ret (je_bl))) (jss_nil)))) (jss_cons (cfor C (ji_of (je_lst (ja_cons (je_tup (ja_nil)) (ja_cons (je_tup (ja_cons (je_lst (ja_nil)) (ja_cons (je_int) (ja_cons (je_tup (ja_nil)) (ja_nil))))) (ja_cons (je_tup (ja_cons (je_dct) (ja_cons (je_int) (ja_cons (je_tup (ja_cons (cs) (ja_nil))) (ja_nil))))) (ja_cons (je_tup (ja_cons (je_lst (ja_nil)) (ja_cons (je_int) (ja_cons (je_int) (ja_nil))))) (ja_nil))))))) (cg C 5) (jss_one (cfor C (ji_of (je_lst (ja_cons (je_tup (ja_cons (cv C 5) (ja_nil))) (ja_cons (je_tup (ja_cons (cs) (ja_cons (cv C 5) (ja_nil)))) (ja_cons (je_tup (ja_cons (je_tup (ja_cons (cs) (ja_cons (je_int) (ja_cons (je_tup (ja_cons (cs) (ja_cons (cv C 5) (ja_nil)))) (ja_nil))))) (ja_nil))) (ja_nil)))))) (cg C 3) (jss_one (js_if (jt_not (jt_tru (ccall C h__law_told_right (ja_cons (cv C 3) (ja_cons (je_bl) (ja_nil)))))) (jss_one (js_ret (je_bl))) (jss_nil)))))) (jss_one (js_ret (cbi C (oc_all C.calm) T.z_all bt_all (ja_cons (clc C [("_law_k", 6)] [some .cell, none, none, none, none, none, some .local] (crange1 C T.z_range (ja_cons (cbi C (oc_max C.calm) T.z_max bt_max (ja_cons (je_int) (ja_cons (cbi C (oc_min C.calm) T.z_min bt_min (ja_cons (cbi C oc_len T.z_len bt_len (ja_cons (cv C 0) (ja_nil))) (ja_cons (je_int) (ja_nil)))) (ja_nil)))) (ja_nil))) (fun _ _ _ _ _ C1 => ⟨cg C1 6, jts_nil, ccall C1 h__law_right (ja_cons (ccall C1 h__law_pool (ja_cons (ccall C1 h__law_cell (ja_cons (cv C1 0) (ja_cons (cv C1 6) (ja_nil)))) (ja_nil))) (ja_nil))⟩)) (ja_nil)))))))))

/-! ### what is drawn -/
def Pool (M : Mem) (n : Nat) : Prop := ∃ s dg c : Int, M[n]? = some (.lst [.int s, .int dg, .int c])
theorem draw_ok {M : Mem} {n : Nat} {m : Int} (hP : Pool M n) (h0 : 0 < m) (h1 : m < 4611686018427387904) :
    ∃ (r : Int) (p : MO), g__law_draw [.ref n, .int m] M = .ok (.int r) (M.set n p) ∧ 0 ≤ r ∧ r < m ∧ Pool (M.set n p) n ∧ p.pure = true := by
  obtain ⟨s, dg, c, hM⟩ := hP
  have hn : n < M.length := (List.getElem?_eq_some_iff.mp hM).1
  have hs : ∀ o : MO, (M.set n o)[n]? = some o := fun o => List.getElem?_set_self hn
  have hm1 : mulOk s (s % 50021 + 30011) = true := mulOk_r (by omega)
  have hm2 : mulOk 80021 (c + 1) = true := mulOk_l (by omega)
  have hlg := log_ok h0 h1
  unfold g__law_draw b__law_draw
  have a0 : ∀ x y z : D, atI [x, y, z] 0 = some x := fun _ _ _ => rfl
  have a1 : ∀ x y z : D, atI [x, y, z] 1 = some y := fun _ _ _ => rfl
  have a2 : ∀ x y z : D, atI [x, y, z] 2 = some z := fun _ _ _ => rfl
  have x0 : ixN 3 0 = some 0 := rfl
  have x1 : ixN 3 1 = some 1 := rfl
  have x2 : ixN 3 2 = some 2 := rfl
  have ix : ∀ (xs : List D) (i : Int), ixO (.ref n) (.int i) (M.set n (.lst xs)) = atI xs i := fun xs i => ixO_ref (hs _)
  have st : ∀ (xs : List D) (i : Int) (v : D), setO (.ref n) (.int i) v (M.set n (.lst xs)) = (ixN xs.length i).map fun j => M.set n (.lst (xs.set j v)) := fun xs i v => by rw [setO_ref (hs _)]; simp only [List.set_set]
  by_cases hd : 0 < dg
  · refine ⟨dg % m, .lst [.int ((s * (s % 50021 + 30011) + 80021 * (c + 1)) % 2147483249), .int (dg / m), .int (c + 1)], ?_, Int.emod_nonneg _ (by omega), Int.emod_lt_of_pos _ h0, ⟨_, _, _, hs _⟩, rfl⟩
    simp [ixO_ref hM, setO_ref hM, a0, a1, a2, x0, x1, x2, ix, st, hm1, hm2, hd, h0, hlg]
  · refine ⟨(s * (s % 50021 + 30011) + 80021 * (c + 1)) % 2147483249 / 64 % m, .lst [.int ((s * (s % 50021 + 30011) + 80021 * (c + 1)) % 2147483249), .int dg, .int (c + 1)], ?_, Int.emod_nonneg _ (by omega), Int.emod_lt_of_pos _ h0, ⟨_, _, _, hs _⟩, rfl⟩
    simp [ixO_ref hM, setO_ref hM, a0, a1, a2, x0, x1, x2, ix, st, hm1, hm2, hd, h0, hlg, log64]
theorem Pool.lt {M : Mem} {n : Nat} (h : Pool M n) : n < M.length := by
  obtain ⟨s, dg, c, hM⟩ := h
  exact (List.getElem?_eq_some_iff.mp hM).1
theorem Pool.app {M : Mem} {n : Nat} (h : Pool M n) (M' : Mem) : Pool (M ++ M') n := by
  obtain ⟨s, dg, c, hM⟩ := h
  exact ⟨s, dg, c, by rw [get_app (List.getElem?_eq_some_iff.mp hM).1]; exact hM⟩
/-- the memory has changed at its pool alone -/
def Only1 (n : Nat) (M M' : Mem) : Prop := ∃ p : MO, p.pure = true ∧ M' = M.set n p
theorem Only1.pool {n : Nat} {M M' : Mem} (h : Only1 n M M') : M'.length = M.length ∧ ∀ k, k ≠ n → M'[k]? = M[k]? := by
  obtain ⟨p, _, rfl⟩ := h
  exact ⟨List.length_set, fun k hk => List.getElem?_set_ne (Ne.symm hk)⟩
theorem Only1.mp {n : Nat} {M M' : Mem} (h : Only1 n M M') (hm : Mp M = true) : Mp M' = true := by
  obtain ⟨p, hp, rfl⟩ := h
  exact mp_set hm hp
theorem Only1.trans {n : Nat} {M M' M2 : Mem} (h : Only1 n M M') (h' : Only1 n M' M2) : Only1 n M M2 := by
  obtain ⟨p, hp, rfl⟩ := h
  obtain ⟨q, hq, rfl⟩ := h'
  exact ⟨q, hq, by rw [List.set_set]⟩
theorem draw1 {M : Mem} {n : Nat} {m : Int} (hP : Pool M n) (h0 : 0 < m) (h1 : m < 4611686018427387904) :
    ∃ (r : Int) (M' : Mem), g__law_draw [.ref n, .int m] M = .ok (.int r) M' ∧ 0 ≤ r ∧ r < m ∧ Pool M' n ∧ Only1 n M M' := by
  obtain ⟨r, p, h, h2, h3, h4, h5⟩ := draw_ok hP h0 h1
  exact ⟨r, _, h, h2, h3, h4, p, h5, rfl⟩
theorem pool_ok {M : Mem} {i : Int} : ∃ (p : MO), g__law_pool [.int i] M = .ok (.ref M.length) (M ++ [p]) ∧ Pool (M ++ [p]) M.length ∧ p.pure = true := by
  unfold g__law_pool b__law_pool
  have e : ∀ (d : Int), gc M.length (.ref M.length) (M ++ [.lst [.int (i % 2147483249), .int d, .int 0]]) = M ++ [.lst [.int (i % 2147483249), .int d, .int 0]] := fun d => by
    exact gc_keep (by simp [D.low])
  by_cases h1 : i < 0
  · exact ⟨.lst [.int (i % 2147483249), .int (-i), .int 0], by simp [h1, e], ⟨i % 2147483249, -i, 0, by simp⟩, rfl⟩
  · by_cases h2 : (1000000000000000000 : Int) ≤ i
    · exact ⟨.lst [.int (i % 2147483249), .int i, .int 0], by simp [h1, h2, e], ⟨i % 2147483249, i, 0, by simp⟩, rfl⟩
    · exact ⟨.lst [.int (i % 2147483249), .int 0, .int 0], by simp [h1, h2, e], ⟨i % 2147483249, 0, 0, by simp⟩, rfl⟩
theorem cell_ok {M : Mem} {ns : List Int} {k : Nat} (hk : k < 1000) : ∃ z : Int, g__law_cell [.fl (ns.map D.int), .int k] M = .ok (.int z) M := by
  unfold g__law_cell b__law_cell
  by_cases h : k < ns.length
  · refine ⟨ns[k], ?_⟩
    have h' : (k : Int) < ((ns.length : Nat) : Int) := by omega
    have e : atI (ns.map D.int) (k : Int) = some (.int ns[k]) := atI_at (by simp [h])
    simp [h', e]
  · have h' : ¬ (k : Int) < ((ns.length : Nat) : Int) := by omega
    have m1 : ∀ x : Int, mulOk 60013 x = true := fun x => mulOk_l (by omega)
    have m2 : ∀ x : Int, mulOk 5 x = true := fun x => mulOk_l (by omega)
    have m3 : ∀ x : Int, mulOk x 41221 = true := fun x => mulOk_r (by omega)
    have m4 : mulOk (k : Int) (k : Int) = true := mulOk_r (by omega)
    have hx : ∀ x ∈ cutD (ns.map D.int) none (some 3), ∃ z : Int, x = .int z := by
      intro x hx
      obtain ⟨z, _, rfl⟩ := List.mem_map.mp (List.mem_of_mem_drop (List.mem_of_mem_take hx))
      exact ⟨z, rfl⟩
    have key : ∀ (xs : List D) (z : Int) (w : Option D), (∀ x ∈ xs, ∃ z : Int, x = .int z) → ∃ (z' : Int) (w' : Option D), forL (gSet 3) (sAsg (fBin dMod (fBin dAdd (fBin dMulT (fVar 2) (fC (.int 41221))) (fVar 3)) (fC (.int 2147483249))) (gSet 2)) xs [some (.fl (ns.map D.int)), some (.int (k : Int)), some (.int z), w] M = .ok (.nx [some (.fl (ns.map D.int)), some (.int (k : Int)), some (.int z'), w']) M := by
      intro xs
      induction xs with
      | nil => intro z w _; exact ⟨z, w, rfl⟩
      | cons x xs ih =>
        intro z w h
        obtain ⟨y, rfl⟩ := h x (List.mem_cons_self ..)
        rw [forL_cons]
        obtain ⟨z', w', e⟩ := ih ((z * 41221 + y) % 2147483249) (some (.int y)) fun x hx => h x (List.mem_cons_of_mem _ hx)
        exact ⟨z', w', by simp [m3, e]⟩
    obtain ⟨z', w', e⟩ := key _ (60013 * ((k : Int) * k + 5 * k + 3) % 2147483249) none hx
    exact ⟨z', by simp [h', m1, m2, m4, p__law_cell_1, e]⟩

/-! ### what is drawn, beside more memory -/
theorem draw_ev {M X : Mem} {n : Nat} {m : Int} (hP : Pool M n) (h0 : 0 < m) (h1 : m < 4611686018427387904) :
    Ev (g__law_draw [.ref n, .int m] (M ++ X)) fun d M2 => ∃ (r : Nat) (M' : Mem), d = .int r ∧ M2 = M' ++ X ∧ (r : Int) < m ∧ M'.length = M.length ∧ Pool M' n ∧ Only1 n M M' := by
  obtain ⟨r, p, h, h2, h3, h4, h5⟩ := draw_ok (hP.app X) h0 h1
  obtain ⟨k, rfl⟩ : ∃ k : Nat, r = k := ⟨r.toNat, by omega⟩
  rw [set_app hP.lt] at h h4
  refine ⟨_, _, h, k, _, rfl, rfl, h3, List.length_set, ?_, p, h5, rfl⟩
  obtain ⟨s, dg, c, e⟩ := h4
  exact ⟨s, dg, c, by rw [get_app (by rw [List.length_set]; exact hP.lt)] at e; exact e⟩
theorem Only1.refl {n : Nat} {M : Mem} (hP : Pool M n) : Only1 n M M := by
  obtain ⟨s, dg, c, h⟩ := hP
  refine ⟨.lst [.int s, .int dg, .int c], rfl, ?_⟩
  obtain ⟨h1, h2⟩ := List.getElem?_eq_some_iff.mp h
  rw [← h2, List.set_getElem_self]
/-- the pool has been drawn from, the rest stands -/
structure Dr (n : Nat) (M M' : Mem) : Prop where
  len : M'.length = M.length
  pool : Pool M' n
  only : Only1 n M M'
theorem Dr.refl {n : Nat} {M : Mem} (hP : Pool M n) : Dr n M M := ⟨rfl, hP, .refl hP⟩
theorem Dr.trans {n : Nat} {M M' M2 : Mem} (a : Dr n M M') (b : Dr n M' M2) : Dr n M M2 := ⟨b.len.trans a.len, b.pool, a.only.trans b.only⟩
theorem Dr.mp {n : Nat} {M M' : Mem} (h : Dr n M M') (hm : Mp M = true) : Mp M' = true := h.only.mp hm
theorem draw_dr {M M0 X : Mem} {n : Nat} {m : Int} (hD : Dr n M0 M) (h0 : 0 < m) (h1 : m < 4611686018427387904) :
    Ev (g__law_draw [.ref n, .int m] (M ++ X)) fun d M2 => ∃ (r : Nat) (M' : Mem), d = .int r ∧ M2 = M' ++ X ∧ (r : Int) < m ∧ Dr n M0 M' := by
  refine (draw_ev hD.pool h0 h1).imp ?_
  rintro d M2 ⟨r, M', rfl, rfl, h2, h3, h4, h5⟩
  exact ⟨r, M', rfl, rfl, h2, hD.trans ⟨h3, h4, h5⟩⟩
theorem draw_dr0 {M M0 : Mem} {n : Nat} {m : Int} (hD : Dr n M0 M) (h0 : 0 < m) (h1 : m < 4611686018427387904) :
    Ev (g__law_draw [.ref n, .int m] M) fun d M2 => ∃ (r : Nat), d = .int r ∧ (r : Int) < m ∧ Dr n M0 M2 := by
  have := draw_dr (X := []) hD h0 h1
  rw [List.append_nil] at this
  refine this.imp ?_
  rintro d M2 ⟨r, M', rfl, rfl, h2, h3⟩
  exact ⟨r, rfl, h2, by rw [List.append_nil]; exact h3⟩

/-! ### the two kinds -/
def kf (b : Bool) (c : Nat × Nat) : Nat := if b = true then c.2 else c.1
def kS (b : Bool) : D := .str [if b = true then 67 else 82]

theorem isint_ok {M : Mem} {v lo hi : Int} : g_is_integer [.int v, .int lo, .int hi] M = .ok (.bl (decide (lo ≤ v) && decide (v ≤ hi))) M := by
  unfold g_is_integer b_is_integer
  by_cases h1 : lo ≤ v
  · simp [h1]
  · simp [h1]
theorem enum_get {xs : List D} {i : Nat} {x : D} (h : (xs.mapIdx fun i d => D.tup [.int i, d])[i]? = some x) : ∃ d, xs[i]? = some d ∧ x = .tup [.int i, d] := by
  rw [List.getElem?_mapIdx] at h
  cases q : xs[i]? with
  | none => rw [q] at h; cases h
  | some d => rw [q] at h; cases h; exact ⟨d, rfl, rfl⟩

/-! ### texts, evaluated -/
@[simp] theorem ev_lenstr {z : List Nat} {M : Mem} : cLen [.str z] M = if z.length ≤ 16777216 then some (.int z.length) else none := nrfl rfl
@[simp] theorem ev_trustr {z : List Nat} {M : Mem} : truO (.str z) M = if z.length ≤ 16777216 then some (!z.isEmpty) else none := nrfl rfl
@[simp] theorem ev_addstr {a b : List Nat} {M : Mem} : dAdd (.str a) (.str b) M = if a.length + b.length ≤ 16777216 then .ok (.str (a ++ b)) M else .bad := nrfl rfl
@[simp] theorem ev_ixstr {z : List Nat} {i : Int} {M : Mem} : ixO (.str z) (.int i) M = if z.length ≤ 16777216 then (match atI z i with
      | some c => some (.str [c])
      | none => none) else none := nrfl rfl
@[simp] theorem ev_slstr {z : List Nat} {lo hi : Option Int} {M : Mem} : slO (.str z) lo hi M = if z.length ≤ 16777216 then some (.str (cutD z lo hi)) else none := nrfl rfl
@[simp] theorem ev_mulstr {z : List Nat} {n : Int} {M : Mem} : dMulS (.str z) (.int n) M = if n < 1 then (if -1000000 ≤ n then .ok (.str []) M else .bad) else if z.length * n.toNat ≤ 16777216 ∧ n ≤ 16777216 then .ok (.str (repS n.toNat z)) M else .bad := nrfl rfl

theorem cutD_to {α : Type} {xs : List α} {m : Nat} (h : m ≤ xs.length) : cutD xs none (some (m : Int)) = xs.take m := by
  unfold cutD HT.sIx
  have h1 : ¬ ((m : Int) < 0) := by omega
  simp only [h1, if_false, Nat.sub_zero, List.drop_zero, Int.toNat_natCast]
  rw [Nat.min_eq_left h]

/-! ### words -/
def wS (bs : List Bool) : List Nat := bs.map fun b => if b = true then 67 else 82
theorem wS_st (bs : List Bool) : (wS bs).map (fun c => D.str [c]) = bs.map kS := by
  unfold wS; rw [List.map_map]; rfl
theorem wS_len (bs : List Bool) : (wS bs).length = bs.length := List.length_map ..
theorem wS_app (a b : List Bool) : wS a ++ wS b = wS (a ++ b) := (List.map_append ..).symm
theorem wS_take (k : Nat) (a : List Bool) : (wS a).take k = wS (a.take k) := List.map_take.symm
theorem wS_rep (k : Nat) (b : Bool) : repS k (wS [b]) = wS (List.replicate k b) := by
  show (List.replicate k [if b = true then 67 else 82]).flatten = _
  unfold wS
  rw [List.map_replicate]
  induction k with
  | zero => rfl
  | succ k ih => rw [List.replicate_succ, List.flatten_cons, ih]; rfl
theorem rc_at {k : Nat} (h : (k : Int) < 2) : ∃ b, atI [82, 67] (k : Int) = some (if b = true then 67 else 82) := by
  have : k = 0 ∨ k = 1 := by omega
  rcases this with rfl | rfl
  · exact ⟨false, rfl⟩
  · exact ⟨true, rfl⟩
theorem kin {M : Mem} {b : Bool} : dIn (kS b) (.tup [.str [82], .str [67]]) M = .ok (.bl true) M := by
  cases b
  · show dIn (.str [82]) _ M = _
    unfold dIn; rw [ev_pure2, in_yes (n := 1) (by decide) (by decide +kernel) (by decide +kernel) (by simp), ev_bO, ev_some]
  · show dIn (.str [67]) _ M = _
    unfold dIn; rw [ev_pure2, in_yes (n := 1) (by decide) (by decide +kernel) (by decide +kernel) (by simp), ev_bO, ev_some]
theorem knotin {M : Mem} {b : Bool} : dNotIn (kS b) (.tup [.str [82], .str [67]]) M = .ok (.bl false) M := by
  cases b
  · show dNotIn (.str [82]) _ M = _
    unfold dNotIn; rw [ev_pure2, in_yes (n := 1) (by decide) (by decide +kernel) (by decide +kernel) (by simp)]; show optO (nbO (some true)) _ = _; rfl
  · show dNotIn (.str [67]) _ M = _
    unfold dNotIn; rw [ev_pure2, in_yes (n := 1) (by decide) (by decide +kernel) (by decide +kernel) (by simp)]; show optO (nbO (some true)) _ = _; rfl

/-! ### words of the program and of the law -/
theorem word_ev {M : Mem} {n most : Nat} (hm : most ≤ 400) (hP : Pool M n) : Ev (g__law_word [.ref n, .int most] M) fun d M' => ∃ bs, d = .str (wS bs) ∧ bs.length ≤ most ∧ Dr n M M' := by
  refine Ev.hide fun Q hQ => ?_
  unfold g__law_word b__law_word
  simp
  refine (draw_dr0 (.refl hP) (by omega) (by omega)).k ?_
  rintro _ M1 ⟨many, rfl, hmany, d1⟩
  simp

  refine (draw_dr0 d1 (by omega) (by omega)).k ?_
  rintro _ M2 ⟨st, rfl, hst, d2⟩

  simp
  refine Ev.k (P := fun fl M3 => ∃ bs, fl = .nx [some (.ref n), some (.int most), some (.int many), some (.int (1 + st)), some (.str (wS bs))] ∧ many ≤ bs.length ∧ bs.length ≤ 1000 ∧ Dr n M M3) ?_ ?_
  · refine Ev.hide fun Q hQ => ?_
    refine Ev.while (m := many) (fun m σ M3 => ∃ bs, σ = [some (.ref n), some (.int most), some (.int many), some (.int (1 + st)), some (.str (wS bs))] ∧ m = many - bs.length ∧ bs.length ≤ 1000 ∧ Dr n M M3) ?_ (by omega) ⟨[], rfl, by simp, by simp, d2⟩
    rintro m _ M3 ⟨bs, rfl, rfl, hbl, d3⟩ Q2 h1 h2 - - -
    have hsz : bs.length ≤ 16777216 := by omega
    simp [t__law_word_2, p__law_word_1, hsz, wS_len]
    by_cases hc : bs.length < many
    · simp [hc]
      refine (draw_dr0 d3 (by omega) (by omega)).k ?_
      rintro _ M4 ⟨k, rfl, hk, d4⟩
      obtain ⟨b, hb⟩ := rc_at (k := k) (by omega)
      simp [hb]
      refine (draw_dr0 d4 (by omega) (by omega)).k ?_
      rintro _ M5 ⟨j, rfl, hj, d5⟩
      have e1 : ¬ ((1 : Int) + j < 1) := by omega
      have e2 : ((1 : Int) + j).toNat = 1 + j := by omega
      have e3 : (1 : Int) + j ≤ 16777216 := by omega
      have e4 : 1 + j ≤ 16777216 := by omega
      have e5 : repS (1 + j) [if b = true then 67 else 82] = wS (List.replicate (1 + j) b) := wS_rep _ _
      have e6 : bs.length + (1 + j) ≤ 16777216 := by omega
      simp [e1, e2, e3, e4, e5, wS_len, wS_app, e6]
      refine h2 _ _ _ ?_ ⟨_, rfl, rfl, ?_, d5⟩
      · rw [List.length_append, List.length_replicate]; omega
      · rw [List.length_append, List.length_replicate]; omega
    · simp [hc]
      exact h1 _ (hQ _ _ ⟨bs, rfl, by omega, hbl, d3⟩)
  rintro _ M3 ⟨bs, rfl, hb1, hb2, d3⟩
  have hsz : bs.length ≤ 16777216 := by omega
  simp [hsz, wS_len, cutD_to (xs := wS bs) (m := many) (by rw [wS_len]; exact hb1), wS_take, gc_len d3.len.symm]
  refine hQ _ _ ⟨bs.take many, rfl, ?_, d3⟩
  rw [List.length_take]; omega

/-! ### how many letters -/
theorem cntL (c : Nat) : ∀ z : List Nat, PyProof.Rows.cnt c z = ((z.count c : Nat) : Int)
  | [] => rfl
  | n :: r => by
    rw [PyProof.Rows.cnt_cons, cntL c r, List.count_cons]
    by_cases h : n = c
    · simp [h]; omega
    · simp [h]
theorem txtcount (c : Nat) (z : List Nat) : Txt.count ⟨z.toArray⟩ ⟨[c].toArray⟩ = ((z.count c : Nat) : Int) := by
  have e : Txt.count ⟨z.toArray⟩ ⟨[c].toArray⟩ = PyProof.Rows.cnt c z := by
    have := PyProof.Rows.count_is ⟨z.toArray⟩ c
    rw [show (⟨[c].toArray⟩ : Str) = ⟨#[c]⟩ from rfl, this]
    rfl
  rw [e, cntL]
@[simp] theorem ev_countS {c : Nat} {z : List Nat} {M : Mem} : mCountS (.str z) [.str [c]] M = .ok (.int (z.count c : Nat)) M := by
  show Out.ok (D.int (Txt.count _ _)) M = _
  rw [txtcount]

/-! ### programs -/
def rptS : List Nat := [114, 101, 112, 101, 97, 116]
/-- a step, so deep -/
inductive Stp (T : Int) (L : Nat) : Nat → D → Prop
  | word {n : Nat} (bs : List Bool) (h1 : 1 ≤ bs.length) (h2 : bs.length ≤ L) : Stp T L n (.str (wS bs))
  | rep {n : Nat} (t : Int) (ps : List D) (h1 : 1 ≤ t) (h2 : t ≤ T) (h : ∀ p ∈ ps, Stp T L n p) : Stp T L (n + 1) (.tup [.str rptS, .int t, .tup ps])
theorem Stp.mono {T T' : Int} {L L' n m : Nat} {d : D} (h : Stp T L n d) (hT : T ≤ T') (hL : L ≤ L') (hn : n ≤ m) : Stp T' L' m d := by
  induction h generalizing m with
  | word bs h1 h2 => exact .word bs h1 (by omega)
  | rep t ps h1 h2 _ ih =>
    obtain ⟨m, rfl⟩ : ∃ k, m = k + 1 := ⟨m - 1, by omega⟩
    exact .rep t ps h1 (by omega) fun p hp => ih p hp (by omega)
mutual
/-- how many steps it counts for -/
def nS : D → Nat
  | .str _ => 1
  | .tup [_, _, .tup ps] => 1 + nSs ps
  | _ => 0
def nSs : List D → Nat
  | [] => 0
  | p :: ps => nS p + nSs ps
end
theorem nS_str {z : List Nat} : nS (.str z) = 1 := by simp [nS]
theorem nS_rep {a b : D} {ps : List D} : nS (.tup [a, b, .tup ps]) = 1 + nSs ps := by simp [nS]
theorem nSs_cons {p : D} {ps : List D} : nSs (p :: ps) = nS p + nSs ps := by simp [nSs]
theorem nSs_nil : nSs [] = 0 := by simp [nSs]
theorem nSs_app : ∀ {ps qs : List D}, nSs (ps ++ qs) = nSs ps + nSs qs
  | [], qs => by simp [nSs_nil]
  | p :: ps, qs => by
    rw [List.cons_append, nSs_cons, nSs_cons, nSs_app]; omega
theorem nSs_sum : ∀ {ps : List D}, (nSs ps : Int) = (ps.map fun p => ((nS p : Nat) : Int)).sum
  | [] => by simp [nSs_nil]
  | p :: ps => by
    rw [nSs_cons, List.map_cons, List.sum_cons, ← nSs_sum]; simp
theorem Stp.pos {T : Int} {L n : Nat} {d : D} (h : Stp T L n d) : 1 ≤ nS d := by
  cases h with
  | word bs h1 h2 => rw [nS_str]; omega
  | rep t ps h1 h2 h => rw [nS_rep]; omega
theorem Stp.len {T : Int} {L n : Nat} {ps : List D} (h : ∀ p ∈ ps, Stp T L n p) : ps.length ≤ nSs ps := by
  induction ps with
  | nil => simp
  | cons p ps ih =>
    have h1 := (h p (List.mem_cons_self ..)).pos
    have h2 := ih fun q hq => h q (List.mem_cons_of_mem _ hq)
    rw [nSs_cons, List.length_cons]; omega
theorem nS_le {p : D} {ps : List D} (h : p ∈ ps) : nS p ≤ nSs ps := by
  induction ps with
  | nil => cases h
  | cons q ps ih =>
    rw [nSs_cons]
    rcases List.mem_cons.mp h with rfl | h
    · omega
    · have := ih h; omega
theorem Stp.pure {T : Int} {L n : Nat} {d : D} (h : Stp T L n d) : d.pure = true := by
  induction h with
  | word bs h1 h2 => unfold D.pure; rfl
  | rep t ps h1 h2 _ ih =>
    refine pure_tup fun d hd => ?_
    simp only [List.mem_cons, List.not_mem_nil, or_false] at hd
    rcases hd with rfl | rfl | rfl
    · unfold D.pure; rfl
    · exact pure_int
    · exact pure_tup ih
theorem Stp.tru {T : Int} {L n : Nat} {d : D} (h : Stp T L n d) : (∃ bs : List Bool, d = .str (wS bs) ∧ 1 ≤ bs.length ∧ bs.length ≤ L) ∨ ∃ (t : Int) (ps : List D) (m : Nat), n = m + 1 ∧ d = .tup [.str rptS, .int t, .tup ps] ∧ 1 ≤ t ∧ t ≤ T ∧ ∀ p ∈ ps, Stp T L m p := by
  cases h with
  | word bs h1 h2 => exact .inl ⟨bs, rfl, h1, h2⟩
  | rep t ps h1 h2 h => exact .inr ⟨t, ps, _, rfl, rfl, h1, h2, h⟩
theorem at3_1 {a b c : D} : atI [a, b, c] 1 = some b := rfl
theorem at3_2 {a b c : D} : atI [a, b, c] 2 = some c := rfl

theorem tupstr {xs : List D} {M : Mem} : cIsi [.tup xs, .ty "str"] M = some (.bl false) := rfl

theorem atI_last {xs : List D} {x : D} (h : xs.getLast? = some x) : atI xs (-1) = some x := by
  cases xs with
  | nil => cases h
  | cons y ys =>
    have hl : (y :: ys).length - 1 < (y :: ys).length := by simp
    rw [List.getLast?_eq_getElem?] at h
    have e : atI (y :: ys) (-1) = (y :: ys)[(y :: ys).length - 1]? := by
      have hx : ixN (y :: ys).length (-1) = some ((y :: ys).length - 1) := by
        unfold ixN
        simp
        omega
      unfold atI
      rw [hx]
      rfl
    rw [e, h]

theorem Dr.inv {n : Nat} {Md X M2 : Mem} (hP : Pool Md n) (h : Dr n (Md ++ X) M2) : ∃ Md', M2 = Md' ++ X ∧ Dr n Md Md' := by
  obtain ⟨p, hp, rfl⟩ := h.only
  have e := h.pool
  rw [set_app hP.lt] at e ⊢
  refine ⟨_, rfl, List.length_set, ?_, p, hp, rfl⟩
  obtain ⟨s, dg, c, e⟩ := e
  exact ⟨s, dg, c, by rw [get_app (by rw [List.length_set]; exact hP.lt)] at e; exact e⟩

/-! ### drawn programs -/
theorem lawsteps_ok {M : Mem} {T : Int} {L n : Nat} {d : D} (h : Stp T L n d) (hsz : nS d ≤ 100000) : ∀ {fuel : Nat}, n < fuel → g__law_steps fuel [d] M = .ok (.int (nS d : Nat)) M := by
  induction h with
  | word bs h1 h2 =>
    intro fuel hf
    obtain ⟨fuel, rfl⟩ : ∃ k, fuel = k + 1 := ⟨fuel - 1, by omega⟩
    unfold g__law_steps b__law_steps
    simp [nS_str]
  | rep t ps h1 h2 hp ih =>
    intro fuel hf
    obtain ⟨fuel, rfl⟩ : ∃ k, fuel = k + 1 := ⟨fuel - 1, by omega⟩
    rw [nS_rep] at hsz
    have hlen := Stp.len hp
    have hlc := lc_map (g := gSet 1) (t := bYes) (e := e__law_steps_1 (g__law_steps fuel)) (σ := [some (.tup [.str rptS, .int t, .tup ps]), none]) (M := M) (fun _ => true) (fun p => .int (nS p : Nat)) ps (fun x hx => ⟨_, rfl, rfl, fun _ => by
      have := ih x hx (Nat.le_trans (nS_le hx) (by omega)) (fuel := fuel) (by omega)
      simp [e__law_steps_1, this]⟩)
    rw [List.filter_eq_self.mpr (fun _ _ => rfl)] at hlc
    have hsum : cSumT [.lst (ps.map fun p => D.int (nS p : Nat))] M = some (.int (nSs ps : Nat)) := by
      have hin : ∀ is : List Int, intsO (is.map .int) = some is := fun is => by
        induction is with
        | nil => rfl
        | cons i is ih => simp [intsO, ih]
      have e : (ps.map fun p => D.int (nS p : Nat)) = (ps.map fun p => ((nS p : Nat) : Int)).map .int := by rw [List.map_map]; rfl
      rw [e]
      unfold cSumT cSum
      simp only [ev_lstO, hin, nSs_sum]
    have hlt : ps.length < 16777216 := by omega
    unfold g__law_steps b__law_steps
    simp [tupstr, at3_2, hlt, hlc, hsum, nS_rep]
theorem at6_0 {a b c d e f : D} : atI [a, b, c, d, e, f] 0 = some a := rfl
theorem at6_1 {a b c d e f : D} : atI [a, b, c, d, e, f] 1 = some b := rfl
theorem at6_2 {a b c d e f : D} : atI [a, b, c, d, e, f] 2 = some c := rfl
theorem at6_3 {a b c d e f : D} : atI [a, b, c, d, e, f] 3 = some d := rfl
theorem at6_4 {a b c d e f : D} : atI [a, b, c, d, e, f] 4 = some e := rfl
theorem at6_5 {a b c d e f : D} : atI [a, b, c, d, e, f] 5 = some f := rfl
/-- how often at most -/
def tOf (small : Bool) : Int := if small = true then 3 else 1000000000000000000000000000000
theorem times_ok {M M0 : Mem} {n : Nat} {small : Bool} (hD : Dr n M0 M) : Ev (g__law_times [.ref n, .bl small] M) fun d M' => ∃ t : Int, d = .int t ∧ 1 ≤ t ∧ t ≤ tOf small ∧ Dr n M0 M' := by
  refine Ev.hide fun Q hQ => ?_
  unfold g__law_times b__law_times
  cases small with
  | true =>
    simp
    refine (draw_dr0 hD (by omega) (by omega)).k ?_
    rintro _ M1 ⟨r, rfl, hr, d1⟩
    simp [gc_len (d := D.int (1 + (r : Int))) ((hD.len.trans d1.len.symm))]
    exact hQ _ _ ⟨_, rfl, by omega, by simp [tOf]; omega, d1⟩
  | false =>
    simp
    refine (draw_dr0 hD (by omega) (by omega)).k ?_
    rintro _ M1 ⟨r1, rfl, hr1, d1⟩
    simp
    refine (draw_dr0 d1 (by omega) (by omega)).k ?_
    rintro _ M2 ⟨r2, rfl, hr2, d2⟩
    simp
    refine (draw_dr0 d2 (by omega) (by omega)).k ?_
    rintro _ M3 ⟨r3, rfl, hr3, d3⟩
    have hl : M.length = M3.length := hD.len.trans d3.len.symm
    have hc : r3 = 0 ∨ r3 = 1 ∨ r3 = 2 ∨ r3 = 3 ∨ r3 = 4 ∨ r3 = 5 := by omega
    rcases hc with rfl | rfl | rfl | rfl | rfl | rfl
    · simp [at6_0, gc_len hl]; exact hQ _ _ ⟨1, rfl, by omega, by show _ ≤ (1000000000000000000000000000000 : Int); omega, d3⟩
    · simp [at6_1, gc_len hl]; exact hQ _ _ ⟨2, rfl, by omega, by show _ ≤ (1000000000000000000000000000000 : Int); omega, d3⟩
    · simp [at6_2, gc_len hl]; exact hQ _ _ ⟨3, rfl, by omega, by show _ ≤ (1000000000000000000000000000000 : Int); omega, d3⟩
    · simp [at6_3, gc_len hl]; exact hQ _ _ ⟨4 + r1, rfl, by omega, by show _ ≤ (1000000000000000000000000000000 : Int); omega, d3⟩
    · simp [at6_4, gc_len hl]; exact hQ _ _ ⟨1 + r2, rfl, by omega, by show _ ≤ (1000000000000000000000000000000 : Int); omega, d3⟩
    · simp [at6_5, gc_len hl]; exact hQ _ _ ⟨1000000000000000000000000000000, rfl, by omega, by show _ ≤ (1000000000000000000000000000000 : Int); omega, d3⟩
theorem mo_pure {T : Int} {L n : Nat} {ps : List D} (h : ∀ p ∈ ps, Stp T L n p) : (MO.lst ps).pure = true := by
  have e := pure_tup (ds := ps) fun p hp => (h p hp).pure
  unfold D.pure at e
  exact e
theorem program_ok {n : Nat} {small : Bool} : ∀ (deep : Nat) {M : Mem} {fuel most : Nat}, 1 ≤ deep → deep ≤ 10 → deep < fuel → most ≤ 100 → Pool M n → Mp M = true → Ev (g__law_program fuel [.ref n, .int deep, .int most, .bl small] M) fun d M' => ∃ ps, d = .tup ps ∧ (∀ p ∈ ps, Stp (tOf small) 6 (deep - 1) p) ∧ nSs ps ≤ most ∧ Dr n M M' := by
  intro deep
  induction deep with
  | zero => intro M fuel most h; omega
  | succ deep ih =>
  intro M fuel most h1 h10 hf hm hP hMp
  obtain ⟨fuel, rfl⟩ : ∃ k, fuel = k + 1 := ⟨fuel - 1, by omega⟩
  refine Ev.hide fun Q hQ => ?_
  unfold g__law_program b__law_program
  simp
  refine (draw_dr (X := [MO.lst []]) (.refl hP) (by omega) (by omega)).k ?_
  rintro _ _ ⟨left, M1, rfl, rfl, hleft, d1⟩
  simp
  refine Ev.k (P := fun fl M' => ∃ ps left Md, fl = Fl.nx [some (.ref n), some (.int ((deep : Int) + 1)), some (.int most), some (.bl small), some (.ref M.length), some (.int left)] ∧ M' = Md ++ [.lst ps] ∧ Dr n M Md ∧ (∀ p ∈ ps, Stp (tOf small) 6 deep p) ∧ nSs ps ≤ most) ?_ ?_
  · refine Ev.hide fun Q hQ => ?_
    refine Ev.while (m := left) (fun m σ M' => ∃ ps Md, σ = [some (.ref n), some (.int ((deep : Int) + 1)), some (.int most), some (.bl small), some (.ref M.length), some (.int (m : Nat))] ∧ M' = Md ++ [.lst ps] ∧ Dr n M Md ∧ (∀ p ∈ ps, Stp (tOf small) 6 deep p) ∧ nSs ps + m ≤ most) ?_ (by omega) ⟨[], M1, rfl, rfl, d1, by simp, by rw [nSs_nil]; omega⟩
    rintro m _ _ ⟨ps, Md, rfl, rfl, dd, hps, hn⟩ Q2 q1 q2 - - -
    by_cases hc : 0 < m
    · have hlen := Stp.len hps
      have un : ∀ M', uNeg (.int 1) M' = some (.int (-1)) := fun _ => rfl
      have lst : ∀ (p : D) (Me : Mem), Dr n M Me → ixO (.ref M.length) (.int (-1)) (Me ++ [.lst (ps ++ [p])]) = some p := fun p Me de => by
        have ml : Me.length = M.length := de.len
        have get : (Me ++ [MO.lst (ps ++ [p])])[M.length]? = some (.lst (ps ++ [p])) := by rw [← ml]; simp
        rw [ixO_ref get]
        exact atI_last (by simp)
      have fin : ∀ (p : D) (Me : Mem), Dr n M Me → Stp (tOf small) 6 deep p → nS p ≤ m → Q2 (some (.nx [some (.ref n), some (.int ((deep : Int) + 1)), some (.int most), some (.bl small), some (.ref M.length), some (.int ((m : Int) - (nS p : Nat)))])) (Me ++ [.lst (ps ++ [p])]) := by
        intro p Me de hp hnp
        have hpos := hp.pos
        have es : (m : Int) - (nS p : Nat) = ((m - nS p : Nat) : Int) := by omega
        rw [es]
        refine q2 (m - nS p) _ _ (by omega) ⟨ps ++ [p], Me, rfl, rfl, de, ?_, ?_⟩
        · intro x hx
          rcases List.mem_append.mp hx with hx | hx
          · exact hps x hx
          · rw [List.mem_singleton.mp hx]; exact hp
        · rw [nSs_app, nSs_cons, nSs_nil]; omega
      have app : ∀ (p : D) (Me : Mem), Dr n M Me → mAppend (.ref M.length) [p] (Me ++ [.lst ps]) = .ok .non (Me ++ [.lst (ps ++ [p])]) := by
        intro p Me de
        have ml : Me.length = M.length := de.len
        have get : (Me ++ [MO.lst ps])[M.length]? = some (.lst ps) := by rw [← ml]; simp
        rw [ev_append get (by omega), ← ml]
        simp
      have tym : ∀ (Me : Mem), Dr n M Me → tyM (.ref M.length) (Me ++ [.lst ps]) = some "list" := fun Me de => by
        have ml : Me.length = M.length := de.len
        have get : (Me ++ [MO.lst ps])[M.length]? = some (.lst ps) := by rw [← ml]; simp
        exact ev_tymref get
      have hc' : (0 : Int) < m := by omega
      simp [hc, p__law_program_1]
      refine (draw_dr (X := [MO.lst ps]) dd (by omega) (by omega)).k ?_
      rintro _ _ ⟨r, M2, rfl, rfl, hr, d2⟩
      by_cases hr3 : r = 3
      · subst hr3
        by_cases hdp : 0 < deep
        · have hdp' : (1 : Int) < (deep : Int) + 1 := by omega
          simp [hdp', tym M2 d2]
          have hMp2 : Mp (M2 ++ [MO.lst ps]) = true := mp_one (d2.mp hMp) (mo_pure hps)
          refine (times_ok (small := small) (.refl (d2.pool.app [MO.lst ps]))).k ?_
          rintro _ M3 ⟨t, rfl, ht1, ht2, d3⟩
          obtain ⟨M3, rfl, d3'⟩ := d3.inv d2.pool
          have d3 := d2.trans d3'
          have hMp3 : Mp (M3 ++ [MO.lst ps]) = true := mp_one (d3.mp hMp) (mo_pure hps)
          simp
          have e1 : (m : Int) - 1 = ((m - 1 : Nat) : Int) := by omega
          rw [e1]
          refine (ih (M := M3 ++ [MO.lst ps]) (fuel := fuel) (most := m - 1) (by omega) (by omega) (by omega) (by omega) (d3.pool.app [MO.lst ps]) hMp3).k ?_
          rintro _ M4 ⟨qs, rfl, hqs, hqn, d4⟩
          obtain ⟨M4, rfl, d4'⟩ := d4.inv d3.pool
          have d4 := d3.trans d4'
          have hp : Stp (tOf small) 6 deep (.tup [.str rptS, .int t, .tup qs]) := by
            obtain ⟨dd, rfl⟩ : ∃ k, deep = k + 1 := ⟨deep - 1, by omega⟩
            exact .rep t qs ht1 ht2 hqs
          have ap := app (.tup [.str [114, 101, 112, 101, 97, 116], .int t, .tup qs]) M4 d4
          have hnp : nS (.tup [.str rptS, .int t, .tup qs]) ≤ m := by rw [nS_rep]; omega
          have l1 := lst (.tup [.str [114, 101, 112, 101, 97, 116], .int t, .tup qs]) M4 d4
          have hs := lawsteps_ok (M := M4 ++ [MO.lst (ps ++ [.tup [.str rptS, .int t, .tup qs]])]) hp (by omega) (fuel := 12) (by omega)
          have hs : g__law_steps 12 [.tup [.str [114, 101, 112, 101, 97, 116], .int t, .tup qs]] (M4 ++ [MO.lst (ps ++ [.tup [.str [114, 101, 112, 101, 97, 116], .int t, .tup qs]])]) = _ := hs
          have f := fin _ M4 d4 hp hnp
          simp [ap, un, l1, hs]
          exact f
        · have hdp' : ¬ (1 : Int) < (deep : Int) + 1 := by omega
          simp [hdp', tym M2 d2]
          refine (draw_dr (X := [MO.lst ps]) d2 (by omega) (by omega)).k ?_
          rintro _ _ ⟨b, M3, rfl, rfl, hb, d3⟩
          obtain ⟨b', hb'⟩ := rc_at (k := b) (by omega)
          simp [hb']
          refine (draw_dr (X := [MO.lst ps]) d3 (by omega) (by omega)).k ?_
          rintro _ _ ⟨c, M4, rfl, rfl, hc3, d4⟩
          obtain ⟨mo, hmo, hmo5⟩ : ∃ k : Nat, atI [D.int 0, .int 3, .int 5] (c : Int) = some (.int (k : Nat)) ∧ k ≤ 5 := by
            have : c = 0 ∨ c = 1 ∨ c = 2 := by omega
            rcases this with rfl | rfl | rfl
            · exact ⟨0, rfl, by omega⟩
            · exact ⟨3, rfl, by omega⟩
            · exact ⟨5, rfl, by omega⟩
          simp [hmo]
          refine (word_ev (M := M4 ++ [MO.lst ps]) (n := n) (most := mo) (by omega) (d4.pool.app _)).k ?_
          rintro _ M5 ⟨bs, rfl, hbs, d5⟩
          obtain ⟨M5, rfl, d5'⟩ := d5.inv d4.pool
          have d5 := d4.trans d5'
          have hsz : bs.length + 1 ≤ 16777216 := by omega
          have hsz' : 1 + bs.length ≤ 16777216 := by omega
          have ew : (if b' = true then 67 else 82) :: wS bs = wS (b' :: bs) := rfl
          have hp : Stp (tOf small) 6 deep (.str (wS (b' :: bs))) := .word (b' :: bs) (by simp) (by rw [List.length_cons]; omega)
          have hnp : nS (.str (wS (b' :: bs))) ≤ m := by rw [nS_str]; omega
          have ap := app (.str (wS (b' :: bs))) M5 d5
          have l1 := lst (.str (wS (b' :: bs))) M5 d5
          have hs := lawsteps_ok (M := M5 ++ [MO.lst (ps ++ [.str (wS (b' :: bs))])]) hp (by omega) (fuel := 12) (by omega)
          have f := fin _ M5 d5 hp hnp
          have ty5 := tym M5 d5
          simp [wS_len, hsz, hsz', ew, ap, un, l1, hs]
          exact f
      · have hr3' : ¬ (r : Int) = 3 := by omega
        simp [hr3, hr3', tym M2 d2]
        refine (draw_dr (X := [MO.lst ps]) d2 (by omega) (by omega)).k ?_
        rintro _ _ ⟨b, M3, rfl, rfl, hb, d3⟩
        obtain ⟨b', hb'⟩ := rc_at (k := b) (by omega)
        simp [hb']
        refine (draw_dr (X := [MO.lst ps]) d3 (by omega) (by omega)).k ?_
        rintro _ _ ⟨c, M4, rfl, rfl, hc3, d4⟩
        obtain ⟨mo, hmo, hmo5⟩ : ∃ k : Nat, atI [D.int 0, .int 3, .int 5] (c : Int) = some (.int (k : Nat)) ∧ k ≤ 5 := by
          have : c = 0 ∨ c = 1 ∨ c = 2 := by omega
          rcases this with rfl | rfl | rfl
          · exact ⟨0, rfl, by omega⟩
          · exact ⟨3, rfl, by omega⟩
          · exact ⟨5, rfl, by omega⟩
        simp [hmo]
        refine (word_ev (M := M4 ++ [MO.lst ps]) (n := n) (most := mo) (by omega) (d4.pool.app _)).k ?_
        rintro _ M5 ⟨bs, rfl, hbs, d5⟩
        obtain ⟨M5, rfl, d5'⟩ := d5.inv d4.pool
        have d5 := d4.trans d5'
        have hsz : bs.length + 1 ≤ 16777216 := by omega
        have hsz' : 1 + bs.length ≤ 16777216 := by omega
        have ew : (if b' = true then 67 else 82) :: wS bs = wS (b' :: bs) := rfl
        have hp : Stp (tOf small) 6 deep (.str (wS (b' :: bs))) := .word (b' :: bs) (by simp) (by rw [List.length_cons]; omega)
        have hnp : nS (.str (wS (b' :: bs))) ≤ m := by rw [nS_str]; omega
        have ap := app (.str (wS (b' :: bs))) M5 d5
        have l1 := lst (.str (wS (b' :: bs))) M5 d5
        have hs := lawsteps_ok (M := M5 ++ [MO.lst (ps ++ [.str (wS (b' :: bs))])]) hp (by omega) (fuel := 12) (by omega)
        have f := fin _ M5 d5 hp hnp
        have ty5 := tym M5 d5
        simp [wS_len, hsz, hsz', ew, ap, un, l1, hs]
        exact f
    · have hm0 : m = 0 := by omega
      subst hm0
      simp
      exact q1 _ (hQ _ _ ⟨ps, 0, Md, rfl, rfl, dd, hps, by omega⟩)
  · rintro _ _ ⟨ps, left2, Md, rfl, rfl, dd, hps, hn⟩
    have ml : Md.length = M.length := dd.len
    have get : (Md ++ [MO.lst ps])[M.length]? = some (.lst ps) := by rw [← ml]; simp
    have sq : seqO (.ref M.length) (Md ++ [.lst ps]) = some ps := by
      unfold seqO
      exact ev_lsref get
    have hgc : gc M.length (.tup ps) (Md ++ [.lst ps]) = Md := gc_more (M := M) ml.symm (dd.mp hMp) (pure_tup fun p hp => (hps p hp).pure)
    simp [sq, hgc]
    exact hQ _ _ ⟨ps, rfl, hps, hn, dd⟩


theorem lstI_pure {ds : List D} (h : ∀ d ∈ ds, d.pure = true) : (MO.lst ds).pure = true := by
  have e := pure_tup (ds := ds) h
  unfold D.pure at e
  exact e

/-! ### numbers and comprehensions -/
def iN (n : Nat) : D := .int n
theorem rngL_iN (lo m : Nat) : rngL (lo : Int) m = (List.range' lo m).map iN := by
  unfold rngL
  rw [List.range'_eq_map_range, List.map_map]
  apply List.map_congr_left
  intro k _
  show D.int _ = D.int _
  congr 1
/-- a comprehension of things that are told by others -/
theorem lc_enc {α : Type} {enc : α → D} {g : SG} {t : SB} {e : SF} {σ : SD} {M : Mem} (p : α → Bool) (f : α → D) : ∀ {xs : List α},
    (∀ x ∈ xs, ∃ σ1, g (enc x) σ M = .ok σ1 M ∧ t σ1 M = .ok (p x) M ∧ (p x = true → e σ1 M = .ok (f x) M)) → lcL g t e (xs.map enc) σ M = .ok ((xs.filter p).map f) M
  | [], _ => rfl
  | x :: xs, h => by
    obtain ⟨σ1, h1, h2, h3⟩ := h x (List.mem_cons_self ..)
    have ih := lc_enc p f (xs := xs) fun y hy => h y (List.mem_cons_of_mem _ hy)
    rw [List.map_cons, lcL_cons, h1, ev_bind, h2, ev_bind, List.filter_cons]
    cases hp : p x with
    | false => rw [if_neg (by simp), if_neg (by simp), ih]
    | true => rw [if_pos rfl, if_pos rfl, h3 hp, ev_bind, ih, ev_bind]; rfl
theorem filter_yes {α : Type} (l : List α) : l.filter (fun _ => true) = l := List.filter_eq_self.mpr fun _ _ => rfl

/-! ### the text of pairs of big numbers -/
theorem reprpairs_ok {a b : Int} (ha : a.natAbs < 10 ^ 400) (hb : b.natAbs < 10 ^ 400) : ∃ z, ∀ M, cRepr [.lst [.tup [.int a, .int b], .tup [.int a, .int b]]] M = some (.str z) := by
  have lg : ∀ i : Nat, i < 10 ^ 400 → i.log2 < 1400 := fun i hi => by
    by_cases h0 : i = 0
    · subst h0; decide
    · refine (Nat.log2_lt h0).mpr (Nat.lt_trans hi ?_)
      decide +kernel
  have la := lg _ ha
  have lb := lg _ hb
  have sh : ∀ i : Int, i.natAbs < 10 ^ 400 → (PyData.shown (.int i)).length ≤ 401 := fun i hi => by
    have e := int_text_length_le10 (k := 400) (by decide) hi
    show (Str.ofString (toString i)).length ≤ 401
    rw [PySem.ofString_length]; exact e
  let p : PyData := .list [.tuple [.int a, .int b], .tuple [.int a, .int b]]
  refine ⟨p.shown.cps.toList, fun M => ?_⟩
  have hpd : pdN M 60 (.lst [.tup [.int a, .int b], .tup [.int a, .int b]]) = some p := by rfl
  generalize D.lst [.tup [.int a, .int b], .tup [.int a, .int b]] = d at *
  show reprO d M = _
  unfold reprO
  rw [hpd]
  have hs : p.showable = true := by
    simp only [p, PyData.showable, PyData.showableAll, Bool.and_eq_true, decide_eq_true_eq]
    exact ⟨⟨by omega, by omega, trivial⟩, ⟨by omega, by omega, trivial⟩, trivial⟩
  have hnd : p.hasDict = false := rfl
  have hdp : p.depth ≤ 60 := by
    simp [p, PyData.depth, PyData.depthAll]
  have hls : p.leavesShort 401 = true := by
    have h1 := sh a ha
    have h2 := sh b hb
    simp only [p, PyData.leavesShort, PyData.leavesShortAll, Bool.and_eq_true, decide_eq_true_eq]
    exact ⟨⟨h1, h2, trivial⟩, ⟨h1, h2, trivial⟩, trivial⟩
  have hw : p.weight ≤ 6000 := by
    have h1 : PyData.weight (.int a) ≤ 1400 := by
      unfold PyData.weight
      split <;> omega
    have h2 : PyData.weight (.int b) ≤ 1400 := by
      unfold PyData.weight
      split <;> omega
    have t2 : PyData.weight (.tuple [.int a, .int b]) = PyData.weight (.int a) + 1 + (PyData.weight (.int b) + 1 + 0) := by
      generalize PyData.int a = x
      generalize PyData.int b = y
      simp [PyData.weight, PyData.weightAll]
    have l2 : ∀ x : PyData, PyData.weight (.list [x, x]) = PyData.weight x + 1 + (PyData.weight x + 1 + 0) := fun x => by
      simp [PyData.weight, PyData.weightAll]
    show PyData.weight (.list [.tuple [.int a, .int b], .tuple [.int a, .int b]]) ≤ 6000
    rw [l2, t2]
    omega
  have hl := PyData.shown_le 401 (by decide) p hls
  have h1 : p.shown.cps.toList.length ≤ 16777216 := by
    have e : p.shown.length = p.shown.cps.toList.length := by show p.shown.cps.size = _; simp
    omega
  simp only [hs, hnd, decide_eq_true h1, decide_eq_true hdp, Bool.not_false, Bool.and_self, if_true]

theorem pool_count (c : Int) (hc : 2 ≤ c) (hc2 : c ≤ 1000) (n : Int) (h0 : 0 ≤ n) : ∃ k : Nat, (if (if c < n then c else n) > 2 then (if c < n then c else n) else 2) = (k : Int) ∧ k ≤ 1000 := by
  refine ⟨(if (if c < n then c else n) > 2 then (if c < n then c else n) else 2).toNat, ?_, ?_⟩
  · split <;> split <;> omega
  · split <;> split <;> omega


/-! ### things that may be steps -/
inductive At (M : Mem) : D → Prop
  | str (z : List Nat) (h : ∀ c ∈ z, c < 1000) (hl : z.length ≤ 10000) : At M (.str z)
  | non : At M .non
  | bl (b : Bool) : At M (.bl b)
  | int (i : Int) : At M (.int i)
  | lst (ds : List D) (h : ds = [] ∨ ds = [.str [82]]) : At M (.lst ds)
  | dct (n : Nat) (h : M[n]? = some (.dct [])) : At M (.ref n)
/-- what stands first -/
inductive Wd (M : Mem) : D → Prop
  | str (z : List Nat) (h : ∀ c ∈ z, c < 1000) (hl : z.length ≤ 10000) : Wd M (.str z)
  | int (i : Int) : Wd M (.int i)
  | lst (ds : List D) (h : ds = [] ∨ ds = [.str [82]]) : Wd M (.lst ds)
  | dct (n : Nat) (h : M[n]? = some (.dct [])) : Wd M (.ref n)
theorem Wd.at {M : Mem} {d : D} (h : Wd M d) : At M d := by
  cases h with
  | str z h hl => exact .str z h hl
  | int i => exact .int i
  | lst ds h => exact .lst ds h
  | dct n h => exact .dct n h
inductive St (M : Mem) : D → Prop
  | atm {d : D} (h : At M d) : St M d
  | tn (ds : List D) (hl : ds.length ≠ 3) (hl2 : ds.length ≤ 100000) : St M (.tup ds)
  | t3 {w t p : D} (hw : Wd M w) (ht : At M t) (hp : At M p) : St M (.tup [w, t, p])
  | t3p {w t : D} {ps : List D} (hw : Wd M w) (ht : At M t) (h : ∀ q ∈ ps, St M q) (hl : ps.length ≤ 100000) : St M (.tup [w, t, .tup ps])
def isW (z : List Nat) : Bool := !z.isEmpty && (decide (z.length ≤ 400) && z.all fun c => c == 82 || c == 67)
def tOk (lo hi : Int) : D → Bool
  | .int i => decide (lo ≤ i) && decide (i ≤ hi)
  | _ => false
def isS : D → Bool
  | .str z => true
  | _ => false
def isR : D → Bool
  | .str z => decide (z = rptS)
  | _ => false
def cntD : Nat → D → Nat
  | 0, .str z => if isW z = true then 1 else 0
  | 0, _ => 0
  | n + 1, .str z => if isW z = true then 1 else 0
  | n + 1, .tup [w, t, .tup ps] => if (isR w && tOk 1 1000000000000000000000000000000 t) = true then (if 0 ∈ ps.map (cntD n) then 0 else 1 + (ps.map (cntD n)).sum) else 0
  | n + 1, _ => 0
theorem cnt_str {n : Nat} {z : List Nat} : cntD n (.str z) = if isW z = true then 1 else 0 := by cases n <;> rfl
theorem cnt_0 {ds : List D} : cntD 0 (.tup ds) = 0 := rfl
theorem cnt_s {n : Nat} {w t : D} {ps : List D} : cntD (n + 1) (.tup [w, t, .tup ps]) = if (isR w && tOk 1 1000000000000000000000000000000 t) = true then (if 0 ∈ ps.map (cntD n) then 0 else 1 + (ps.map (cntD n)).sum) else 0 := rfl
theorem cnt_n {n : Nat} {ds : List D} (h : ds.length ≠ 3) : cntD n (.tup ds) = 0 := by
  cases n with
  | zero => rfl
  | succ n =>
    match ds, h with
    | [], _ => rfl
    | [_], _ => rfl
    | [_, _], _ => rfl
    | [_, _, _], h => exact absurd rfl h
    | _ :: _ :: _ :: _ :: _, _ => simp only [cntD]
theorem At.cnt {M : Mem} {d : D} (h : At M d) (hs : isS d = false) {n : Nat} : cntD n d = 0 := by
  cases h with
  | str z _ _ => cases hs
  | _ => cases n <;> rfl
theorem cnt_3 {M : Mem} {n : Nat} {w t p : D} (h : At M p) : cntD n (.tup [w, t, p]) = 0 := by
  cases n with
  | zero => rfl
  | succ n => cases h <;> rfl
theorem At.isi_str {M : Mem} {d : D} (h : At M d) : cIsi [d, .ty "str"] M = some (.bl (isS d)) := by
  cases h with
  | dct n h =>
    have e : tyO (.ref n) M = some "dict" := by unfold tyO; simp only [h]
    show (match tyO (.ref n) M with
      | some t => match isSub t "str" with
        | some b => some (D.bl b)
        | none => none
      | none => none) = _
    rw [e]; rfl
  | _ => rfl
theorem At.isi_tup {M : Mem} {d : D} (h : At M d) : cIsi [d, .ty "tuple"] M = some (.bl false) := by
  cases h with
  | dct n h =>
    have e : tyO (.ref n) M = some "dict" := by unfold tyO; simp only [h]
    show (match tyO (.ref n) M with
      | some t => match isSub t "tuple" with
        | some b => some (D.bl b)
        | none => none
      | none => none) = _
    rw [e]; rfl
  | _ => rfl
theorem At.isi_int {M : Mem} {d : D} (h : At M d) (hi : ∀ i, d ≠ .int i) (hb : ∀ b, d ≠ .bl b) : cIsi [d, .ty "int"] M = some (.bl false) := by
  cases h with
  | int i => exact absurd rfl (hi i)
  | bl b => exact absurd rfl (hb b)
  | dct n h =>
    have e : tyO (.ref n) M = some "dict" := by unfold tyO; simp only [h]
    show (match tyO (.ref n) M with
      | some t => match isSub t "int" with
        | some b => some (D.bl b)
        | none => none
      | none => none) = _
    rw [e]; rfl
  | _ => rfl
theorem At.int_ok {M : Mem} {d : D} (h : At M d) {lo hi : Int} : g_is_integer [d, .int lo, .int hi] M = .ok (.bl (tOk lo hi d)) M := by
  by_cases h1 : ∃ i, d = .int i
  · obtain ⟨i, rfl⟩ := h1; exact isint_ok
  · by_cases h2 : ∃ b, d = .bl b
    · obtain ⟨b, rfl⟩ := h2
      unfold g_is_integer b_is_integer
      simp [tOk]
    · have e := h.isi_int (fun i e => h1 ⟨i, e⟩) (fun b e => h2 ⟨b, e⟩)
      have e2 : tOk lo hi d = false := by cases d <;> first | rfl | exact absurd ⟨_, rfl⟩ h1
      unfold g_is_integer b_is_integer
      simp [e, e2]
theorem At.whole_ok {M : Mem} {d : D} (h : At M d) {lo hi : Int} : g__law_whole [d, .int lo, .int hi] M = .ok (.bl (tOk lo hi d)) M := h.int_ok
theorem isS_str {z : List Nat} : isS (.str z) = true := rfl
theorem Wd.ne_rep {M : Mem} {d : D} (h : Wd M d) : dNeX d (.str [114, 101, 112, 101, 97, 116]) M = .ok (.bl (!isR d)) M := by
  cases h with
  | str z _ _ => exact nrfl rfl
  | dct n h =>
    show (match M[n]? with
      | some (.dct _) => Out.ok (D.bl true) M
      | _ => dNeS (.ref n) (.str rptS) M) = _
    rw [h]; rfl
  | int i => exact neS_yes (n := 1) (by omega) (d := .int i) (e := .str rptS) rfl (by decide +kernel) (by simp)
  | lst ds hd =>
    refine neS_yes (n := 3) (by omega) (d := .lst ds) (e := .str rptS) ?_ (by decide +kernel) (by simp)
    rcases hd with rfl | rfl <;> decide +kernel
theorem chr_in {M : Mem} {c : Nat} (h : c < 1000) : dIn (.str [c]) (.tup [.str [82], .str [67]]) M = .ok (.bl (c == 82 || c == 67)) M := by
  have hp : pl 1 (.str [c]) = true := by
    show PyData.strOk ⟨[c].toArray⟩ = true
    unfold PyData.strOk
    simp
    omega
  unfold dIn
  by_cases e1 : c = 82
  · subst e1; rw [ev_pure2, in_yes (n := 1) (by decide) hp (by decide +kernel) (by simp), ev_bO, ev_some]; rfl
  · by_cases e2 : c = 67
    · subst e2; rw [ev_pure2, in_yes (n := 1) (by decide) hp (by decide +kernel) (by simp), ev_bO, ev_some]; rfl
    · rw [ev_pure2, in_no (n := 1) (by decide) hp (by decide +kernel) (by simp [e1, e2]), ev_bO, ev_some]
      simp [e1, e2]
def chB : D → D
  | .str [c] => .bl (c == 82 || c == 67)
  | _ => .non
theorem isword_any {M : Mem} {z : List Nat} (h : ∀ c ∈ z, c < 1000) (hl : z.length ≤ 10000) : g_is_word [.str z] M = .ok (.bl (decide (z.length ≤ 400) && z.all fun c => c == 82 || c == 67)) M := by
  have hsz : z.length ≤ 16777216 := by omega
  have hsz2 : z.length < 16777216 := by omega
  have hlc := lc_map (g := gSet 1) (t := bYes) (e := e_is_word_1) (σ := [some (.str z), none]) (M := M) (fun _ => true) chB (z.map fun c => D.str [c]) (fun x hx => by
    obtain ⟨c, hc, rfl⟩ := List.mem_map.mp hx
    have := chr_in (M := M) (h c hc)
    exact ⟨_, rfl, rfl, fun _ => by simp [e_is_word_1, this, chB]⟩)
  rw [List.filter_eq_self.mpr (fun _ _ => rfl), List.map_map] at hlc
  have em : (z.map (chB ∘ fun c => D.str [c])) = (z.map fun c => (c == 82 || c == 67)).map D.bl := by rw [List.map_map]; rfl
  rw [em] at hlc
  have hall := all_B (bs := z.map fun c => (c == 82 || c == 67)) (M := M)
  have ha : (z.map fun c => (c == 82 || c == 67)).all id = z.all fun c => c == 82 || c == 67 := by rw [List.all_map]; rfl
  rw [ha] at hall
  generalize hB : (z.map fun c => (c == 82 || c == 67)).map D.bl = bls at *
  generalize hq : (z.all fun c => c == 82 || c == 67) = q at *
  unfold g_is_word b_is_word
  by_cases hc : z.length ≤ 400
  · have hc' : ¬ (400 < (z.length : Int)) := by omega
    simp [-List.map_map, hsz, hsz2, hc, hc', hlc, hall]
  · have hc' : 400 < (z.length : Int) := by omega
    simp [-List.map_map, hsz, hsz2, hc, hc']
theorem intsO_is : ∀ is : List Int, intsO (is.map .int) = some is
  | [] => rfl
  | i :: is => by simp [intsO, intsO_is is]
theorem sumN_ok {ns : List Nat} {M : Mem} : cSumT [.lst (ns.map fun n => D.int (n : Nat))] M = some (.int (ns.sum : Nat)) := by
  have e : (ns.map fun n => D.int (n : Nat)) = (ns.map fun n => ((n : Nat) : Int)).map .int := by rw [List.map_map]; rfl
  rw [e]
  unfold cSumT cSum
  simp only [ev_lstO, intsO_is]
  have : ∀ ns : List Nat, ((ns.map fun n => ((n : Nat) : Int)).sum) = ((ns.sum : Nat) : Int) := by
    intro ns
    induction ns with
    | nil => rfl
    | cons n ns ih => rw [List.map_cons, List.sum_cons, List.sum_cons, ih]; simp
  simp only [this]
theorem in0_ok {ns : List Nat} {M : Mem} : dIn (.int 0) (.lst (ns.map fun n => D.int (n : Nat))) M = .ok (.bl (decide (0 ∈ ns))) M := by
  rw [in_plL (n := 1) (by decide) rfl (by rw [List.all_eq_true]; intro x hx; obtain ⟨p, _, rfl⟩ := List.mem_map.mp hx; rfl)]
  have : (D.int 0 ∈ ns.map fun n => D.int (n : Nat)) ↔ 0 ∈ ns := by
    constructor
    · intro h
      obtain ⟨n, hn, e⟩ := List.mem_map.mp h
      injection e with e
      have : n = 0 := by omega
      rw [← this]; exact hn
    · intro h; exact List.mem_map.mpr ⟨0, h, rfl⟩
  simp only [this]
theorem steps_ok {M : Mem} {d : D} (h : St M d) : ∀ {fuel nested : Nat}, nested < fuel → nested ≤ 1000 → g_steps_in fuel [d, .int nested] M = .ok (.int (cntD nested d)) M := by
  induction h with
  | @atm d h =>
    intro fuel nested hf hN
    obtain ⟨fuel, rfl⟩ : ∃ k, fuel = k + 1 := ⟨fuel - 1, by omega⟩
    cases hs : isS d with
    | true =>
      cases h with
      | str z h hl =>
        have hw := isword_any (M := M) h hl
        unfold g_steps_in b_steps_in
        rw [cnt_str]
        unfold isW
        cases z with
        | nil => simp
        | cons c z => simp [hw]; split <;> rfl
      | _ => cases hs
    | false =>
      have e := h.isi_str
      rw [hs] at e
      unfold g_steps_in b_steps_in
      simp [e, h.isi_tup, h.cnt hs]
  | tn ds hl hl2 =>
    intro fuel nested hf hN
    obtain ⟨fuel, rfl⟩ : ∃ k, fuel = k + 1 := ⟨fuel - 1, by omega⟩
    have hl3 : ¬ ((ds.length : Int) = 3) := by omega
    unfold g_steps_in b_steps_in
    simp [tupstr, hl, hl3, cnt_n hl]
  | @t3 w t p hw ht hp =>
    intro fuel nested hf hN
    obtain ⟨fuel, rfl⟩ : ∃ k, fuel = k + 1 := ⟨fuel - 1, by omega⟩
    unfold g_steps_in b_steps_in
    cases h1 : isR w with
    | false => simp [tupstr, hw.ne_rep, h1, cnt_3 hp]
    | true =>
      by_cases h2 : (nested : Int) = 0
      · simp [tupstr, hw.ne_rep, h1, h2, cnt_3 hp]
      · cases h3 : tOk 1 1000000000000000000000000000000 t with
        | false => simp [tupstr, hw.ne_rep, h1, h2, h3, ht.int_ok, cnt_3 hp]
        | true => simp [tupstr, hw.ne_rep, h1, h2, h3, ht.int_ok, hp.isi_tup, cnt_3 hp]
  | @t3p w t ps hw ht hp hl ih =>
    intro fuel nested hf hN
    obtain ⟨fuel, rfl⟩ : ∃ k, fuel = k + 1 := ⟨fuel - 1, by omega⟩
    unfold g_steps_in b_steps_in
    cases nested with
    | zero =>
      cases h1 : isR w with
      | false => simp [tupstr, hw.ne_rep, h1, cnt_0]
      | true => simp [tupstr, hw.ne_rep, h1, cnt_0]
    | succ nested =>
      have h2 : ¬ (((nested + 1 : Nat) : Int) = 0) := by omega
      have h2' : ¬ ((nested : Int) + 1 = 0) := by omega
      cases h1 : isR w with
      | false => simp [tupstr, hw.ne_rep, h1, cnt_s]
      | true =>
      cases h3 : tOk 1 1000000000000000000000000000000 t with
      | false => simp [tupstr, hw.ne_rep, h1, h2, h2', h3, ht.int_ok, cnt_s]
      | true =>
        have en : ((nested + 1 : Nat) : Int) - 1 = ((nested : Nat) : Int) := by omega
        have hlc := lc_map (g := gSet 6) (t := bYes) (e := e_steps_in_1 (g_steps_in fuel)) (σ := [some (.tup [w, t, .tup ps]), some (.int (nested + 1 : Nat)), some w, some t, some (.tup ps), none, none]) (M := M) (fun _ => true) (fun p => .int (cntD nested p : Nat)) ps (fun x hx => ⟨_, rfl, rfl, fun _ => by
          have := ih x hx (fuel := fuel) (nested := nested) (by omega) (by omega)
          simp [e_steps_in_1, en, this]⟩)
        rw [List.filter_eq_self.mpr (fun _ _ => rfl)] at hlc
        have em : (ps.map fun p => D.int (cntD nested p : Nat)) = (ps.map (cntD nested)).map fun n => D.int (n : Nat) := by rw [List.map_map]; rfl
        rw [em, show ((nested + 1 : Nat) : Int) = (nested : Int) + 1 from rfl] at hlc
        have hin := in0_ok (ns := ps.map (cntD nested)) (M := M)
        have hsum := sumN_ok (ns := ps.map (cntD nested)) (M := M)
        have hlt : ps.length < 16777216 := by omega
        rw [cnt_s, h1, h3]
        generalize ps.map (cntD nested) = ns at *
        generalize (ns.map fun n => D.int (n : Nat)) = nsD at *
        by_cases h0 : 0 ∈ ns
        · simp [tupstr, hw.ne_rep, h1, h2, h2', h3, ht.int_ok, hlt, hlc, hin, hsum, h0]
        · simp [tupstr, hw.ne_rep, h1, h2, h2', h3, ht.int_ok, hlt, hlc, hin, hsum, h0]

theorem cnt_all : ∀ z : List Nat, (z.count 82 + z.count 67 = z.length) ↔ (z.all fun c => c == 82 || c == 67) = true
  | [] => by simp
  | c :: z => by
    have ih := cnt_all z
    have h1 := List.count_le_length (a := 82) (l := z)
    have hle : z.count 82 + z.count 67 ≤ z.length := by
      clear ih h1
      induction z with
      | nil => simp
      | cons d z ih =>
        simp only [List.count_cons, List.length_cons, beq_iff_eq]
        by_cases e1 : d = 82
        · subst e1; simp; omega
        · by_cases e2 : d = 67
          · subst e2; simp; omega
          · simp [e1, e2]; omega
    simp only [List.count_cons, List.length_cons, List.all_cons, Bool.and_eq_true, Bool.or_eq_true, beq_iff_eq]
    by_cases e1 : c = 82
    · subst e1
      simp
      have e : (∀ x ∈ z, x = 82 ∨ x = 67) ↔ (z.all fun c => c == 82 || c == 67) = true := by simp
      rw [e, ← ih]; omega
    · by_cases e2 : c = 67
      · subst e2
        simp
        have e : (∀ x ∈ z, x = 82 ∨ x = 67) ↔ (z.all fun c => c == 82 || c == 67) = true := by simp
        rw [e, ← ih]; omega
      · simp [e1, e2]; omega
theorem counted_ok {M : Mem} {d : D} (h : St M d) : ∀ {fuel deep : Nat}, deep < fuel → deep ≤ 1000 → g__law_counted fuel [d, .int deep] M = .ok (.int (cntD deep d)) M := by
  induction h with
  | @atm d h =>
    intro fuel nested hf hN
    obtain ⟨fuel, rfl⟩ : ∃ k, fuel = k + 1 := ⟨fuel - 1, by omega⟩
    cases hs : isS d with
    | true =>
      cases h with
      | str z h hl =>
        have hsz : z.length ≤ 16777216 := by omega
        have hc := cnt_all z
        unfold g__law_counted b__law_counted
        rw [cnt_str]
        unfold isW
        generalize hq : (z.all fun c => c == 82 || c == 67) = q at *
        by_cases h0 : z = []
        · subst h0; simp
        · have h0' : 0 < z.length := List.length_pos_iff.mpr h0
          have h1 : (0 : Int) < z.length := by omega
          by_cases h2 : z.length ≤ 400
          · have h3 : (z.length : Int) < 401 := by omega
            by_cases h4 : q = true
            · have h5 : ((z.count 82 : Nat) : Int) + ((z.count 67 : Nat) : Int) = (z.length : Int) := by have := hc.mpr h4; omega
              simp [hsz, h0, h0', h2, h3, h4, h5]
            · have h5 : ¬ (((z.count 82 : Nat) : Int) + ((z.count 67 : Nat) : Int) = (z.length : Int)) := by intro e; exact h4 (hc.mp (by omega))
              simp [hsz, h0, h0', h2, h3, h4, h5]
          · have h3 : ¬ (z.length : Int) < 401 := by omega
            simp [hsz, h0, h0', h2, h3]
      | _ => cases hs
    | false =>
      have e := h.isi_str
      rw [hs] at e
      unfold g__law_counted b__law_counted
      simp [e, h.isi_tup, h.cnt hs]
  | tn ds hl hl2 =>
    intro fuel nested hf hN
    obtain ⟨fuel, rfl⟩ : ∃ k, fuel = k + 1 := ⟨fuel - 1, by omega⟩
    have hl3 : ¬ ((ds.length : Int) = 3) := by omega
    unfold g__law_counted b__law_counted
    simp [tupstr, hl, hl3, cnt_n hl]
  | @t3 w t p hw ht hp =>
    intro fuel nested hf hN
    obtain ⟨fuel, rfl⟩ : ∃ k, fuel = k + 1 := ⟨fuel - 1, by omega⟩
    have a0 : atI [w, t, p] 0 = some w := rfl
    have a1 : atI [w, t, p] 1 = some t := rfl
    have a2 : atI [w, t, p] 2 = some p := rfl
    unfold g__law_counted b__law_counted
    cases hs : isS w with
    | false => simp [tupstr, a0, hw.at.isi_str, hs, cnt_3 hp]
    | true =>
    obtain ⟨z, rfl⟩ : ∃ z, w = .str z := by cases w <;> first | exact ⟨_, rfl⟩ | cases hs
    by_cases h1 : z = [114, 101, 112, 101, 97, 116]
    · subst h1
      by_cases h2 : (nested : Int) < 1
      · simp [tupstr, a0, h2, cnt_3 hp]
      · cases h3 : tOk 1 1000000000000000000000000000000 t with
        | false => simp [tupstr, a0, a1, a2, h2, h3, ht.whole_ok, cnt_3 hp]
        | true => simp [tupstr, a0, a1, a2, h2, h3, ht.whole_ok, hp.isi_tup, cnt_3 hp]
    · simp [tupstr, a0, h1, cnt_3 hp]
  | @t3p w t ps hw ht hp hl ih =>
    intro fuel nested hf hN
    obtain ⟨fuel, rfl⟩ : ∃ k, fuel = k + 1 := ⟨fuel - 1, by omega⟩
    have a0 : atI [w, t, .tup ps] 0 = some w := rfl
    have a1 : atI [w, t, .tup ps] 1 = some t := rfl
    have a2 : atI [w, t, .tup ps] 2 = some (.tup ps) := rfl
    unfold g__law_counted b__law_counted
    cases hs : isS w with
    | false =>
      have hr : isR w = false := by cases w <;> first | rfl | cases hs
      cases nested with
      | zero => simp [tupstr, a0, hw.at.isi_str, hs, cnt_0]
      | succ nested => simp [tupstr, a0, hw.at.isi_str, hs, cnt_s, hr]
    | true =>
    obtain ⟨z, rfl⟩ : ∃ z, w = .str z := by cases w <;> first | exact ⟨_, rfl⟩ | cases hs
    by_cases h1 : z = [114, 101, 112, 101, 97, 116]
    · subst h1
      have hr : isR (.str [114, 101, 112, 101, 97, 116]) = true := by decide
      cases nested with
      | zero => simp [tupstr, a0, cnt_0]
      | succ nested =>
        have h2 : ¬ (((nested + 1 : Nat) : Int) < 1) := by omega
        have h2' : ¬ ((nested : Int) + 1 < 1) := by omega
        cases h3 : tOk 1 1000000000000000000000000000000 t with
        | false => simp [tupstr, a0, a1, a2, h2, h2', h3, ht.whole_ok, cnt_s]
        | true =>
          have en : ((nested + 1 : Nat) : Int) - 1 = ((nested : Nat) : Int) := by omega
          have hlc := lc_map (g := gSet 3) (t := bYes) (e := e__law_counted_1 (g__law_counted fuel)) (σ := [some (.tup [.str [114, 101, 112, 101, 97, 116], t, .tup ps]), some (.int (nested + 1 : Nat)), none, none]) (M := M) (fun _ => true) (fun p => .int (cntD nested p : Nat)) ps (fun x hx => ⟨_, rfl, rfl, fun _ => by
            have := ih x hx (fuel := fuel) (deep := nested) (by omega) (by omega)
            simp [e__law_counted_1, en, this]⟩)
          rw [List.filter_eq_self.mpr (fun _ _ => rfl)] at hlc
          have em : (ps.map fun p => D.int (cntD nested p : Nat)) = (ps.map (cntD nested)).map fun n => D.int (n : Nat) := by rw [List.map_map]; rfl
          rw [em, show ((nested + 1 : Nat) : Int) = (nested : Int) + 1 from rfl] at hlc
          have hin := in0_ok (ns := ps.map (cntD nested)) (M := M)
          have hsum := sumN_ok (ns := ps.map (cntD nested)) (M := M)
          have hlt : ps.length < 16777216 := by omega
          rw [cnt_s, hr, h3]
          generalize ps.map (cntD nested) = ns at *
          generalize (ns.map fun n => D.int (n : Nat)) = nsD at *
          by_cases h0 : 0 ∈ ns
          · simp [tupstr, a0, a1, a2, h2, h2', h3, ht.whole_ok, hlt, hlc, hin, hsum, h0]
          · simp [tupstr, a0, a1, a2, h2, h2', h3, ht.whole_ok, hlt, hlc, hin, hsum, h0]
    · have hr : isR (.str z) = false := by simp [isR, rptS, h1]
      cases nested with
      | zero => simp [tupstr, a0, h1, cnt_0]
      | succ nested => simp [tupstr, a0, h1, cnt_s, hr]
/-! ### where the first fault is -/
def fbad : Nat → Nat → List Nat → Option Nat
  | _, _, [] => none
  | i, tot, c :: cs => if c = 0 ∨ 60 < tot + c then some i else fbad (i + 1) (tot + c) cs
def oD : Option Nat → D
  | none => .non
  | some i => .int (i : Nat)
theorem invalid_ok {M : Mem} {ps : List D} (h : ∀ p ∈ ps, St M p) (hl : ps.length ≤ 100000) : g_first_invalid [.tup ps] M = .ok (oD (fbad 0 0 (ps.map (cntD 4)))) M := by
  have key : ∀ (R : List D) (i tot : Nat) (w2 w3 w4 : Option D), (∀ p ∈ R, St M p) → ∃ σ, forL (gTup 2 (gsCons (gSet 2) (gsCons (gSet 3) (gsNil)))) (p_first_invalid_1) (R.mapIdx fun j d => D.tup [.int ((i + j : Nat) : Int), d]) [some (.tup ps), some (.int (tot : Nat)), w2, w3, w4] M =
      match fbad i tot (R.map (cntD 4)) with
      | none => .ok (.nx σ) M
      | some i => .ok (.rt (.int (i : Nat))) M := by
    intro R
    induction R with
    | nil => intro i tot w2 w3 w4 _; exact ⟨_, rfl⟩
    | cons p R ih =>
      intro i tot w2 w3 w4 hR
      have hs := steps_ok (hR p (List.mem_cons_self ..)) (fuel := 12) (nested := 4) (by omega) (by omega)
      rw [List.mapIdx_cons, forL_cons, List.map_cons, fbad]
      have em : (R.mapIdx fun j d => D.tup [.int ((i + (j + 1) : Nat) : Int), d]) = R.mapIdx fun j d => D.tup [.int ((i + 1 + j : Nat) : Int), d] := by
        congr 1; funext j d; congr 3; omega
      have hs' : g_steps_in 12 [p, .int 4] M = .ok (.int (cntD 4 p : Nat)) M := hs
      obtain ⟨σ, e⟩ := ih (i + 1) (tot + cntD 4 p) (some (.int (i : Nat))) (some p) (some (.int (cntD 4 p : Nat))) fun q hq => hR q (List.mem_cons_of_mem _ hq)
      refine ⟨σ, ?_⟩
      generalize cntD 4 p = c at *
      rw [em]
      by_cases h0 : c = 0
      · subst h0
        simp [p_first_invalid_1, hs']
      · by_cases h1 : 60 < tot + c
        · have h2 : (60 : Int) < (tot : Int) + (c : Int) := by omega
          simp [p_first_invalid_1, hs', h0, h1, h2]
        · have h2 : ¬ (60 : Int) < (tot : Int) + (c : Int) := by omega
          have e' : ((tot + c : Nat) : Int) = (tot : Int) + (c : Int) := by omega
          rw [if_neg (by omega)]
          rw [e'] at e
          simp [p_first_invalid_1, hs', h0, h2]
          exact e
  obtain ⟨σ, e⟩ := key ps 0 0 none none none h
  have hlt : ps.length ≤ 16777216 := by omega
  simp only [Nat.zero_add, show ((0 : Nat) : Int) = 0 from rfl] at e
  unfold g_first_invalid b_first_invalid
  generalize fbad 0 0 (ps.map (cntD 4)) = o at *
  cases o with
  | none => simp [e, oD]
  | some i => simp [e, oD]
theorem lawbad_ok {M : Mem} {ps : List D} (h : ∀ p ∈ ps, St M p) (hl : ps.length ≤ 100000) : g__law_first_bad [.tup ps] M = .ok (.lst ((fbad 0 0 (ps.map (cntD 4))).toList.map fun i => D.int (i : Nat))) M := by
  have key : ∀ (R : List D) (i tot : Nat) (w2 w3 w4 : Option D), (∀ p ∈ R, St M p) → ∃ σ, forL (gTup 2 (gsCons (gSet 2) (gsCons (gSet 3) (gsNil)))) (p__law_first_bad_1) (R.mapIdx fun j d => D.tup [.int ((i + j : Nat) : Int), d]) [some (.tup ps), some (.int (tot : Nat)), w2, w3, w4] M =
      match fbad i tot (R.map (cntD 4)) with
      | none => .ok (.nx σ) M
      | some i => .ok (.rt (.lst [.int (i : Nat)])) M := by
    intro R
    induction R with
    | nil => intro i tot w2 w3 w4 _; exact ⟨_, rfl⟩
    | cons p R ih =>
      intro i tot w2 w3 w4 hR
      have hs := counted_ok (hR p (List.mem_cons_self ..)) (fuel := 12) (deep := 4) (by omega) (by omega)
      rw [List.mapIdx_cons, forL_cons, List.map_cons, fbad]
      have em : (R.mapIdx fun j d => D.tup [.int ((i + (j + 1) : Nat) : Int), d]) = R.mapIdx fun j d => D.tup [.int ((i + 1 + j : Nat) : Int), d] := by
        congr 1; funext j d; congr 3; omega
      have hs' : g__law_counted 12 [p, .int 4] M = .ok (.int (cntD 4 p : Nat)) M := hs
      obtain ⟨σ, e⟩ := ih (i + 1) (tot + cntD 4 p) (some (.int (i : Nat))) (some p) (some (.int (cntD 4 p : Nat))) fun q hq => hR q (List.mem_cons_of_mem _ hq)
      refine ⟨σ, ?_⟩
      generalize cntD 4 p = c at *
      rw [em]
      by_cases h0 : c = 0
      · subst h0
        simp [p__law_first_bad_1, hs']
      · by_cases h1 : 60 < tot + c
        · have h2 : (60 : Int) < (tot : Int) + (c : Int) := by omega
          simp [p__law_first_bad_1, hs', h0, h1, h2]
        · have h2 : ¬ (60 : Int) < (tot : Int) + (c : Int) := by omega
          have e' : ((tot + c : Nat) : Int) = (tot : Int) + (c : Int) := by omega
          rw [if_neg (by omega)]
          rw [e'] at e
          simp [p__law_first_bad_1, hs', h0, h2]
          exact e
  obtain ⟨σ, e⟩ := key ps 0 0 none none none h
  have hlt : ps.length ≤ 16777216 := by omega
  simp only [Nat.zero_add, show ((0 : Nat) : Int) = 0 from rfl] at e
  unfold g__law_first_bad b__law_first_bad
  generalize fbad 0 0 (ps.map (cntD 4)) = o at *
  cases o with
  | none => simp [e]
  | some i => simp [e]

/-- all the pools, at any place of the block -/
theorem all_poolsI {i : Nat} {σ : SD} {e : SF} (he : e = fCallD 1 g__law_right (fsCons (fCallD 1 g__law_pool (fsCons (fCallD 2 g__law_cell (fsCons (fVar 0) (fsCons (fVar i) (fsNil)))) (fsNil))) (fsNil)))
    (hr : ∀ {M : Mem} {n : Nat}, Pool M n → Mp M = true → Ev (g__law_right [.ref n] M) fun d M' => d = .bl true ∧ Mp M' = true) (ns : List Int) {k : Nat} (hk : k ≤ 1000) {M : Mem} (hM : Mp M = true)
    (h0 : ∀ d : D, (σ.set i (some d))[0]? = some (some (.fl (ns.map D.int)))) (hi : ∀ d : D, (σ.set i (some d))[i]? = some (some d)) :
    Ev (lcL (gSet i) bYes e (rngL 0 k) σ M) fun ys M' => (∀ y ∈ ys, y = .bl true) ∧ Mp M' = true := by
  subst he
  refine Ev.lc (fun rest acc M' => (∀ x ∈ rest, ∃ j : Nat, j < k ∧ x = .int (j : Nat)) ∧ (∀ y ∈ acc, y = .bl true) ∧ Mp M' = true) ?_ ⟨fun x hx => ?_, (fun _ h => nomatch h), hM⟩ (fun ys M' h => h.2)
  · rintro x rest acc M1 ⟨hx, hacc, hM1⟩ Q2 hy -
    obtain ⟨j, hj, rfl⟩ := hx x (List.mem_cons_self ..)
    obtain ⟨z, hz⟩ := cell_ok (M := M1) (ns := ns) (k := j) (by omega)
    obtain ⟨p, hp, hP, pp⟩ := pool_ok (M := M1) (i := z)
    have hMp : Mp (M1 ++ [p]) = true := mp_one hM1 pp
    simp [h0, hi, hz, hp]
    refine (hr hP hMp).k ?_
    rintro _ M3 ⟨rfl, hM3⟩
    simp
    refine hy _ _ ⟨fun x hx' => hx x (List.mem_cons_of_mem _ hx'), fun y hy => ?_, hM3⟩
    rcases List.mem_append.mp hy with hy | hy
    · exact hacc y hy
    · exact List.mem_singleton.mp hy
  · obtain ⟨j, hj, rfl⟩ := rngL_mem hx
    exact ⟨j, hj, by simp⟩

/-! ### one thing changed -/
structure Ms (n : Nat) (M M' : Mem) : Prop where
  pool : Pool M' n
  mp : Mp M' = true
  keep : ∀ k, k ≠ n → k < M.length → M'[k]? = M[k]?
  len : M.length ≤ M'.length
theorem Ms.trans {n : Nat} {M M1 M2 : Mem} (a : Ms n M M1) (b : Ms n M1 M2) : Ms n M M2 := ⟨b.pool, b.mp, fun k h1 h2 => (b.keep k h1 (by have := a.len; omega)).trans (a.keep k h1 h2), by have := a.len; have := b.len; omega⟩
theorem Ms.dr {n : Nat} {M M' : Mem} (hM : Mp M = true) (h : Dr n M M') : Ms n M M' := ⟨h.pool, h.mp hM, fun k h1 h2 => h.only.pool.2 k h1, by rw [h.len]; exact Nat.le_refl _⟩
theorem Ms.app {n : Nat} {M X : Mem} (hM : Mp M = true) (hP : Pool M n) (h : X.all MO.pure = true) : Ms n M (M ++ X) := ⟨hP.app X, mp_app hM h, fun k _ h2 => get_app h2, by rw [List.length_append]; omega⟩
theorem dct_ms {n k : Nat} {M M' : Mem} (hP : Pool M n) (h : Ms n M M') (hk : M[k]? = some (.dct [])) : M'[k]? = some (.dct []) := by
  rw [h.keep k (fun e => by subst e; obtain ⟨a, b, c, e⟩ := hP; rw [hk] at e; cases e) (List.getElem?_eq_some_iff.mp hk).1]; exact hk
theorem At.ms {n : Nat} {M M' : Mem} (hP : Pool M n) (h : Ms n M M') {d : D} (hd : At M d) : At M' d := by
  cases hd with
  | str z a b => exact .str z a b
  | non => exact .non
  | bl b => exact .bl b
  | int i => exact .int i
  | lst ds a => exact .lst ds a
  | dct k hk => exact .dct k (dct_ms hP h hk)
theorem Wd.ms {n : Nat} {M M' : Mem} (hP : Pool M n) (h : Ms n M M') {d : D} (hd : Wd M d) : Wd M' d := by
  cases hd with
  | str z a b => exact .str z a b
  | int i => exact .int i
  | lst ds a => exact .lst ds a
  | dct k hk => exact .dct k (dct_ms hP h hk)
theorem St.ms {n : Nat} {M M' : Mem} (hP : Pool M n) (h : Ms n M M') {d : D} (hd : St M d) : St M' d := by
  induction hd with
  | atm a => exact .atm (a.ms hP h)
  | tn ds a b => exact .tn ds a b
  | t3 a b c => exact .t3 (a.ms hP h) (b.ms hP h) (c.ms hP h)
  | t3p a b _ c ih => exact .t3p (a.ms hP h) (b.ms hP h) ih c
theorem dct_take {k m : Nat} {M : Mem} (hk : M[k]? = some (.dct [])) (h : k < m) : (M.take m)[k]? = some (.dct []) := by rw [List.getElem?_take_of_lt h, hk]
theorem ref_low {k m : Nat} (h : (D.ref k).low m = true) : k < m := by unfold D.low at h; exact of_decide_eq_true h
theorem tup_lows {m : Nat} {ds : List D} (h : (D.tup ds).low m = true) : ∀ d ∈ ds, d.low m = true := by
  have h : D.lows m ds = true := by unfold D.low at h; exact h
  induction ds with
  | nil => intro d hd; cases hd
  | cons x ds ih =>
    have h : (D.low m x && D.lows m ds) = true := h
    rw [Bool.and_eq_true] at h
    intro d hd
    rcases List.mem_cons.mp hd with rfl | hd
    · exact h.1
    · exact ih (by unfold D.low; exact h.2) h.2 d hd
theorem At.take {m : Nat} {M : Mem} {d : D} (hd : At M d) (h : d.low m = true) : At (M.take m) d := by
  cases hd with
  | str z a b => exact .str z a b
  | non => exact .non
  | bl b => exact .bl b
  | int i => exact .int i
  | lst ds a => exact .lst ds a
  | dct k hk => exact .dct k (dct_take hk (ref_low h))
theorem Wd.take {m : Nat} {M : Mem} {d : D} (hd : Wd M d) (h : d.low m = true) : Wd (M.take m) d := by
  cases hd with
  | str z a b => exact .str z a b
  | int i => exact .int i
  | lst ds a => exact .lst ds a
  | dct k hk => exact .dct k (dct_take hk (ref_low h))
theorem St.take {m : Nat} {M : Mem} {d : D} (hd : St M d) (h : d.low m = true) : St (M.take m) d := by
  induction hd with
  | atm a => exact .atm (a.take h)
  | tn ds a b => exact .tn ds a b
  | t3 a b c =>
    have hl := tup_lows h
    exact .t3 (a.take (hl _ (by simp))) (b.take (hl _ (by simp))) (c.take (hl _ (by simp)))
  | t3p a b _ c ih =>
    have hl := tup_lows h
    exact .t3p (a.take (hl _ (by simp))) (b.take (hl _ (by simp))) (fun q hq => ih q hq (tup_lows (hl _ (by simp)) q hq)) c
inductive Th (M : Mem) (B : Nat) : D → Prop
  | tup (ps : List D) (h : ∀ p ∈ ps, St M p) (hl : ps.length ≤ B) : Th M B (.tup ps)
  | lst (ps : List D) : Th M B (.lst ps)
  | atm {d : D} (h : At M d) : Th M B d
theorem Th.take {m B : Nat} {M : Mem} {d : D} (hd : Th M B d) (h : d.low m = true) : Th (M.take m) B d := by
  cases hd with
  | tup ps a b => exact .tup ps (fun p hp => (a p hp).take (tup_lows h p hp)) b
  | lst ps => exact .lst ps
  | atm a => exact .atm (a.take h)
theorem pool_takeK {M : Mem} {n k : Nat} (h : Pool M n) (hn : n < k) : Pool (M.take k) n := by
  obtain ⟨s, dg, c, e⟩ := h
  exact ⟨s, dg, c, by rw [List.getElem?_take_of_lt hn, e]⟩
theorem ms_gc {n B : Nat} {M M1 : Mem} {d : D} (hP : Pool M n) (h : Ms n M M1) (t : Th M1 B d) : Ms n M (gc M.length d M1) ∧ Th (gc M.length d M1) B d := by
  unfold gc
  split
  · rename_i hc
    rw [Bool.and_eq_true] at hc
    have hl : (M1.take M.length).length = M.length := by rw [List.length_take]; have := h.len; omega
    refine ⟨⟨pool_takeK h.pool hP.lt, ?_, fun k h1 h2 => ?_, by omega⟩, t.take hc.1⟩
    · unfold Mp; rw [hl]; exact hc.2
    · rw [List.getElem?_take_of_lt h2]; exact h.keep k h1 h2
  · exact ⟨h, t⟩
def rpD (t : D) (ps : List D) : D := .tup [.str [114, 101, 112, 101, 97, 116], t, .tup ps]
def oddL (k : Nat) : List D := [.str [], .str [114], .str [82, 67, 88], .str (repS 401 [82]), .str [32, 82], .non, .int 5, .bl true, .tup [.str [82]], .lst [.str [82]], .ref k,
  .tup [.str [114, 101, 112, 101, 97, 116], .int 0, .tup []], .tup [.str [114, 101, 112, 101, 97, 116], .bl true, .tup []],
  .tup [.str [114, 101, 112, 101, 97, 116], .int 1000000000000000000000000000001, .tup [.str [82]]], .tup [.str [114, 101, 112, 101, 97, 116], .int 2, .str [82]], .tup [.str [114, 101, 112, 101, 97, 116], .int 2, .lst [.str [82]]], .tup [.str [114, 101, 112, 101, 97, 116], .int 2],
  .tup [.str [114, 101, 112, 101, 97, 116], .int 2, .tup [.str [82]], .tup []], .tup [.str [97, 103, 97, 105, 110], .int 2, .tup []], .tup [.int 2, .str [114, 101, 112, 101, 97, 116], .tup []], .tup [.str [114, 101, 112, 101, 97, 116], .int (-1), .tup []],
  .tup [.str [114, 101, 112, 101, 97, 116], .int 2, .tup [.tup [.str [114, 101, 112, 101, 97, 116], .int 2, .tup [.str []]]]], .tup [.str [114, 101, 112, 101, 97, 116], .non, .tup []], .tup [.str [114, 101, 112, 101, 97, 116], .str [50], .tup [.str [67]]]]
theorem atS {M : Mem} (z : List Nat) (h : (z.all fun c => decide (c < 1000)) = true) (hl : z.length ≤ 10000) : At M (.str z) := .str z (fun c hc => by simpa using List.all_eq_true.mp h c hc) hl
theorem wdS {M : Mem} (z : List Nat) (h : (z.all fun c => decide (c < 1000)) = true) (hl : z.length ≤ 10000) : Wd M (.str z) := .str z (fun c hc => by simpa using List.all_eq_true.mp h c hc) hl
theorem wdR {M : Mem} : Wd M (.str [114, 101, 112, 101, 97, 116]) := wdS _ rfl (by decide)
theorem stNil {M : Mem} : ∀ q ∈ ([] : List D), St M q := fun _ h => nomatch h
theorem stCons {M : Mem} {d : D} {ds : List D} (h : St M d) (hs : ∀ q ∈ ds, St M q) : ∀ q ∈ d :: ds, St M q := fun q hq => (List.mem_cons.mp hq).elim (fun e => e ▸ h) (hs q)
theorem odd_st {M : Mem} {k : Nat} (hk : M[k]? = some (.dct [])) : ∀ d ∈ oddL k, St M d := by
  have r401 : repS 401 [82] = List.replicate 401 82 := by decide +kernel
  unfold oddL
  refine stCons (.atm (atS _ rfl (by decide))) (stCons (.atm (atS _ rfl (by decide))) (stCons (.atm (atS _ rfl (by decide))) (stCons (.atm (.str _ (by rw [r401]; intro c hc; rw [(List.mem_replicate.mp hc).2]; omega) (by rw [r401, List.length_replicate]; omega))) (stCons (.atm (atS _ rfl (by decide))) (stCons (.atm .non) (stCons (.atm (.int _)) (stCons (.atm (.bl _)) ?_)))))))
  refine stCons (.tn _ (by decide) (by decide)) (stCons (.atm (.lst _ (.inr rfl))) (stCons (.atm (.dct _ hk)) (stCons (.t3p wdR (.int _) stNil (by decide)) (stCons (.t3p wdR (.bl _) stNil (by decide)) ?_))))
  refine stCons (.t3p wdR (.int _) (stCons (.atm (atS _ rfl (by decide))) stNil) (by decide)) (stCons (.t3 wdR (.int _) (atS _ rfl (by decide))) (stCons (.t3 wdR (.int _) (.lst _ (.inr rfl))) (stCons (.tn _ (by decide) (by decide)) ?_)))
  refine stCons (.tn _ (by decide) (by decide)) (stCons (.t3p (wdS _ rfl (by decide)) (.int _) stNil (by decide)) (stCons (.t3p (.int _) (atS _ rfl (by decide)) stNil (by decide)) (stCons (.t3p wdR (.int _) stNil (by decide)) ?_)))
  refine stCons (.t3p wdR (.int _) (stCons (.t3p wdR (.int _) (stCons (.atm (atS _ rfl (by decide))) stNil) (by decide)) stNil) (by decide)) (stCons (.t3p wdR .non stNil (by decide)) (stCons (.t3p wdR (atS _ rfl (by decide)) (stCons (.atm (atS _ rfl (by decide))) stNil) (by decide)) stNil))
theorem mulTN {ps : List D} {k : Nat} {M : Mem} (h : ps.length ≤ 1000) (h2 : 2 ≤ k) (hk : k ≤ 1000) : dMulT (.tup ps) (.int (k : Nat)) M = .ok (.tup (List.replicate k ps).flatten) M := by
  have e0 : dMulT (.tup ps) (.int (k : Nat)) M = if (k : Int) = 1 then .ok (.tup ps) M else if ps.length = 0 ∧ 0 ≤ (k : Int) ∧ (k : Int) ≤ 1000 then .ok (.tup ps) M else dMul (.tup ps) (.int (k : Nat)) M := rfl
  rw [e0, if_neg (by omega)]
  by_cases hp : ps.length = 0
  · obtain rfl := List.eq_nil_of_length_eq_zero hp
    rw [if_pos ⟨rfl, by omega, by omega⟩]
    simp
  · rw [if_neg (fun z => hp z.1)]
    have e1 : dMul (.tup ps) (.int (k : Nat)) M = if 2 ≤ (k : Int) ∧ (k : Int) ≤ 1000 ∧ ps.length ≤ 1000 ∧ ps ≠ [] then .ok (.tup (List.replicate (k : Int).toNat ps).flatten) M else .bad := rfl
    rw [e1, if_pos ⟨by omega, by omega, h, fun e => hp (by rw [e]; rfl)⟩]
    rfl
@[simp] theorem ev_dctN {σ : SD} {M : Mem} : fDctN σ M = .ok (.ref M.length) (M ++ [.dct []]) := nrfl rfl
theorem bent_ok {M : Mem} {n B : Nat} {ps : List D} (hP : Pool M n) (hMp : Mp M = true) (hps : ∀ p ∈ ps, St M p) (hl : ps.length ≤ B) (hB : B ≤ 1000) : Ev (g__law_bent [.ref n, .tup ps] M) fun d M' => Ms n M M' ∧ Th M' (11 * B + 20) d := by
  refine Ev.hide fun Q hQ => ?_
  have hQ' : ∀ (d : D) (M' : Mem), Ms n M M' → Th M' (11 * B + 20) d → Q d (gc M.length d M') := fun d M' h1 h2 => hQ _ _ (ms_gc hP h1 h2)
  have ms1 : Ms n M (M ++ [.dct []]) := .app hMp hP rfl
  have hnl := hP.lt
  have un : ∀ M', uNeg (.int 1) M' = some (.int (-1)) := fun _ => rfl
  have hsz : ps.length ≤ 16777216 := by omega
  unfold g__law_bent b__law_bent
  simp [un]
  refine Ev.k (draw_dr0 (.refl ms1.pool) (by omega) (by omega)) ?_
  rintro _ M1 ⟨way, rfl, hway, d1⟩
  simp
  refine Ev.k (draw_dr0 d1 (by omega) (by omega)) ?_
  rintro _ M2 ⟨at', rfl, hat, d2⟩
  simp
  refine Ev.k (draw_dr0 d2 (by omega) (by omega)) ?_
  rintro _ M3 ⟨r, rfl, hr, d3⟩
  have ms3 : Ms n M M3 := ms1.trans (.dr ms1.mp d3)
  have hk3 : M3[M.length]? = some (.dct []) := dct_ms ms1.pool (.dr ms1.mp d3) (by simp)
  obtain ⟨x, hx, hxm⟩ : ∃ x, atI (oddL M.length) (r : Int) = some x ∧ x ∈ oddL M.length := by
    have hlt : r < (oddL M.length).length := by show r < 24; omega
    exact ⟨(oddL M.length)[r], atI_at (List.getElem?_eq_getElem hlt), List.getElem_mem hlt⟩
  have hxs : St M3 x := odd_st hk3 x hxm
  unfold oddL at hx
  simp [hx]
  have hps3 : ∀ p ∈ ps, St M3 p := fun p hp => (hps p hp).ms hP ms3
  clear hx
  generalize hol : ([D.str [], D.str [114], D.str [82, 67, 88], D.str (repS 401 [82]), D.str [32, 82], D.non, D.int 5, D.bl true, D.tup [D.str [82]], D.lst [D.str [82]], D.ref (List.length M),
        D.tup [D.str [114, 101, 112, 101, 97, 116], D.int 0, D.tup []],
        D.tup [D.str [114, 101, 112, 101, 97, 116], D.bl true, D.tup []],
        D.tup [D.str [114, 101, 112, 101, 97, 116], D.int 1000000000000000000000000000001, D.tup [D.str [82]]],
        D.tup [D.str [114, 101, 112, 101, 97, 116], D.int 2, D.str [82]],
        D.tup [D.str [114, 101, 112, 101, 97, 116], D.int 2, D.lst [D.str [82]]],
        D.tup [D.str [114, 101, 112, 101, 97, 116], D.int 2],
        D.tup [D.str [114, 101, 112, 101, 97, 116], D.int 2, D.tup [D.str [82]], D.tup []],
        D.tup [D.str [97, 103, 97, 105, 110], D.int 2, D.tup []],
        D.tup [D.int 2, D.str [114, 101, 112, 101, 97, 116], D.tup []],
        D.tup [D.str [114, 101, 112, 101, 97, 116], D.int (-1), D.tup []],
        D.tup
          [D.str [114, 101, 112, 101, 97, 116], D.int 2,
            D.tup [D.tup [D.str [114, 101, 112, 101, 97, 116], D.int 2, D.tup [D.str []]]]],
        D.tup [D.str [114, 101, 112, 101, 97, 116], D.non, D.tup []],
        D.tup [D.str [114, 101, 112, 101, 97, 116], D.str [50], D.tup [D.str [67]]]] : List D) = odd
  have hA : ∀ p ∈ ps.take at', St M3 p := fun p hp => hps3 p (List.mem_of_mem_take hp)
  have hA2 : (ps.take at').length ≤ B := by rw [List.length_take]; omega
  have c0 : cutD ps none (some (at' : Int)) = ps.take at' := cut_to ps at'
  have hC : ∀ j, ∀ p ∈ ps.drop j, St M3 p := fun j p hp => hps3 p (List.mem_of_mem_drop hp)
  have hC2 : ∀ j, (ps.drop j).length ≤ B := fun j => by rw [List.length_drop]; omega
  have cC : ∀ j : Nat, cutD ps (some (j : Int)) none = ps.drop j := cut_from ps
  generalize ps.take at' = A at *
  have join : ∀ C : List D, (∀ p ∈ C, St M3 p) → C.length ≤ B → ∀ p ∈ A ++ x :: C, St M3 p := by
    intro C h1 h2 p hp
    rcases List.mem_append.mp hp with hp | hp
    · exact hA p hp
    · rcases List.mem_cons.mp hp with rfl | hp
      · exact hxs
      · exact h1 p hp
  have hlA : A.length ≤ 16777215 := by omega
  have hw : way = 0 ∨ way = 1 ∨ way = 2 ∨ way = 3 ∨ way = 4 ∨ way = 5 := by omega
  rcases hw with rfl | rfl | rfl | rfl | rfl | rfl
  · have c1 : cutD ps (some ((at' : Int) + 1)) none = ps.drop (at' + 1) := cC (at' + 1)
    have h1 := hC (at' + 1)
    have h2 := hC2 (at' + 1)
    generalize ps.drop (at' + 1) = C at *
    have hl2 : A.length + 1 + C.length ≤ 16777216 := by omega
    simp [c0, c1, hlA, hl2]
    exact hQ' _ _ ms3 (.tup _ (join C h1 h2) (by rw [List.length_append, List.length_cons]; omega))
  · have c1 := cC at'
    have h1 := hC at'
    have h2 := hC2 at'
    generalize ps.drop at' = C at *
    have hl2 : A.length + 1 + C.length ≤ 16777216 := by omega
    have e1 : (at' : Int) + 1 - 1 = (at' : Int) := by omega
    simp [c0, c1, hlA, hl2, e1]
    exact hQ' _ _ ms3 (.tup _ (join C h1 h2) (by rw [List.length_append, List.length_cons]; omega))
  · simp
    refine Ev.k (draw_dr0 (.refl ms3.pool) (by omega) (by omega)) ?_
    rintro _ M4 ⟨r4, rfl, hr4, d4⟩
    have ms4 : Ms n M M4 := ms3.trans (.dr ms3.mp d4)
    have loop : ∀ k : Nat, Ev (forL (gSet 6) p__law_bent_1 (rngL 0 k) [some (D.ref n), some (D.tup ps), some (D.lst odd), some (D.int 2), some (D.int (at' : Int)), some x, none] M4) fun fl M' => ∃ ps' w, fl = .nx [some (D.ref n), some (D.tup ps'), some (D.lst odd), some (D.int 2), some (D.int (at' : Int)), some x, w] ∧ Ms n M M' ∧ (∀ p ∈ ps', St M' p) ∧ ps'.length ≤ B + 1 := by
      intro k
      refine Ev.hide fun Q hQ => ?_
      refine Ev.loop (fun σ M' => ∃ ps' w, σ = [some (D.ref n), some (D.tup ps'), some (D.lst odd), some (D.int 2), some (D.int (at' : Int)), some x, w] ∧ Ms n M M' ∧ (∀ p ∈ ps', St M' p) ∧ ps'.length ≤ B + 1) ?_ ⟨ps, none, rfl, ms4, fun p hp => (hps3 p hp).ms ms3.pool (.dr ms3.mp d4), by omega⟩ ?_
      · rintro y - σ M5 ⟨ps', w, rfl, ms5, h5, l5⟩ Q2 hn - - -
        simp [p__law_bent_1]
        refine Ev.k (draw_dr0 (.refl ms5.pool) (by omega) (by omega)) ?_
        rintro _ M6 ⟨r6, rfl, hr6, d6⟩
        have ms6 := Ms.dr ms5.mp d6
        simp
        exact hn _ _ ⟨_, _, rfl, ms5.trans ms6, stCons (.t3p wdR (.int _) (fun p hp => (h5 p hp).ms ms5.pool ms6) (by omega)) stNil, by simp⟩
      · rintro σ M' ⟨ps', w, rfl, h⟩
        exact hQ _ _ ⟨ps', w, rfl, h⟩
    have l1 := loop 1
    have l2 := loop 2
    have s1 : small62 1 = true := by decide
    have s2 : small62 2 = true := by decide
    have hr4' : r4 = 0 ∨ r4 = 1 := by omega
    rcases hr4' with rfl | rfl
    · simp [s1]
      refine Ev.k l1 ?_
      rintro _ M' ⟨ps', w, rfl, h1, h2, h3⟩
      simp
      exact hQ' _ _ h1 (.tup _ h2 (by omega))
    · simp [s2]
      refine Ev.k l2 ?_
      rintro _ M' ⟨ps', w, rfl, h1, h2, h3⟩
      simp
      exact hQ' _ _ h1 (.tup _ h2 (by omega))
  · simp
    refine Ev.k (draw_dr0 (.refl ms3.pool) (by omega) (by omega)) ?_
    rintro _ M4 ⟨r4, rfl, hr4, d4⟩
    have ms4 : Ms n M M4 := ms3.trans (.dr ms3.mp d4)
    have e2 : 2 + (r4 : Int) = ((2 + r4 : Nat) : Int) := by omega
    have hm := mulTN (ps := ps) (k := 2 + r4) (M := M4) (by omega) (by omega) (by omega)
    rw [← e2] at hm
    simp [hm]
    refine hQ' _ _ ms4 (.tup _ (fun p hp => ?_) ?_)
    · obtain ⟨l, hl1, hl2⟩ := List.mem_flatten.mp hp
      rw [(List.mem_replicate.mp hl1).2] at hl2
      exact (hps3 p hl2).ms ms3.pool (.dr ms3.mp d4)
    · have hlen : (List.replicate (2 + r4) ps).flatten.length = (2 + r4) * ps.length := by simp
      rw [hlen]
      have : (2 + r4) * ps.length ≤ 10 * ps.length := Nat.mul_le_mul_right _ (by omega)
      omega
  · simp
    have ms3' : Ms n M (M3 ++ [.dct []]) := ms3.trans (.app ms3.mp ms3.pool rfl)
    refine Ev.k (draw_dr0 (.refl ms3'.pool) (by omega) (by omega)) ?_
    rintro _ M4 ⟨r4, rfl, hr4, d4⟩
    have ms4 : Ms n M M4 := ms3'.trans (.dr ms3'.mp d4)
    have hk4 : M4[M3.length]? = some (.dct []) := dct_ms ms3'.pool (.dr ms3'.mp d4) (by simp)
    obtain ⟨y, hy, hym⟩ : ∃ y, atI [D.lst ps, D.non, D.str [82], D.int 7, D.ref M3.length, D.bl true, D.tup [D.str [114, 101, 112, 101, 97, 116], D.int 2, D.tup []]] (r4 : Int) = some y ∧ y ∈ [D.lst ps, D.non, D.str [82], D.int 7, D.ref M3.length, D.bl true, D.tup [D.str [114, 101, 112, 101, 97, 116], D.int 2, D.tup []]] := by
      have hlt : r4 < 7 := by omega
      exact ⟨_, atI_at (List.getElem?_eq_getElem hlt), List.getElem_mem hlt⟩
    simp [hy]
    refine hQ' _ _ ms4 ?_
    simp only [List.mem_cons, List.not_mem_nil, or_false] at hym
    rcases hym with rfl | rfl | rfl | rfl | rfl | rfl | rfl
    · exact .lst _
    · exact .atm .non
    · exact .atm (atS _ rfl (by decide))
    · exact .atm (.int _)
    · exact .atm (.dct _ hk4)
    · exact .atm (.bl _)
    · exact .tup _ (stCons (.atm (atS _ rfl (by decide))) (stCons (.atm (.int _)) (stCons (.tn _ (by decide) (by decide)) stNil))) (by simp)
  · have c1 := cC at'
    have h1 := hC at'
    have h2 := hC2 at'
    generalize ps.drop at' = C at *
    have hl2 : 1 + C.length ≤ 16777216 := by omega
    simp [c0, c1, hlA, hl2]
    refine hQ' _ _ ms3 (.tup _ (stCons (.t3p wdR (.int _) (fun p hp => ?_) (by rw [List.length_append, List.length_singleton]; omega)) h1) (by rw [List.length_cons]; omega))
    have := join [] (fun _ h => nomatch h) (by simp)
    exact this p hp

/-! ### what is told -/
def due : D → Bool
  | .tup ps => (fbad 0 0 (ps.map (cntD 4))).isNone
  | _ => false
theorem Th.nt {M : Mem} {B : Nat} {d : D} (h : Th M B d) : (∃ ps, d = .tup ps ∧ (∀ p ∈ ps, St M p) ∧ ps.length ≤ B) ∨ (cIsi [d, .ty "tuple"] M = some (.bl false) ∧ due d = false) := by
  cases h with
  | tup ps a b => exact .inl ⟨ps, rfl, a, b⟩
  | lst ps => exact .inr ⟨rfl, rfl⟩
  | atm a => exact .inr ⟨a.isi_tup, by cases a <;> rfl⟩
theorem isprog_th {M : Mem} {B : Nat} {d : D} (h : Th M B d) (hB : B ≤ 100000) : g_is_program [d] M = .ok (.bl (due d)) M := by
  rcases h.nt with ⟨ps, rfl, h1, h2⟩ | ⟨h1, h2⟩
  · have e := invalid_ok h1 (by omega)
    have i1 : ∀ M, dIs .non .non M = .ok (.bl true) M := fun _ => rfl
    have i2 : ∀ (i : Int) M, dIs (.int i) .non M = .ok (.bl false) M := fun _ _ => rfl
    unfold g_is_program b_is_program
    show _ = Out.ok (D.bl (fbad 0 0 (ps.map (cntD 4))).isNone) M
    generalize fbad 0 0 (ps.map (cntD 4)) = o at *
    cases o with
    | none => simp [e, oD, i1]
    | some i => simp [e, oD, i2]
  · unfold g_is_program b_is_program
    simp [h1, h2]
theorem bad_th {M : Mem} {B : Nat} {d : D} (h : Th M B d) (hB : B ≤ 100000) : ∃ L, g__law_first_bad [d] M = .ok (.lst L) M ∧ dEqS (.lst L) (.lst []) M = .ok (.bl (due d)) M := by
  rcases h.nt with ⟨ps, rfl, h1, h2⟩ | ⟨h1, h2⟩
  · have e := lawbad_ok h1 (by omega)
    show ∃ L, g__law_first_bad [D.tup ps] M = Out.ok (D.lst L) M ∧ dEqS (D.lst L) (D.lst []) M = Out.ok (D.bl (fbad 0 0 (ps.map (cntD 4))).isNone) M
    generalize fbad 0 0 (ps.map (cntD 4)) = o at *
    cases o with
    | none => exact ⟨_, e, eqS_yes (n := 2) (by omega) rfl⟩
    | some i => exact ⟨_, e, eqS_no (n := 2) (by omega) rfl rfl (by simp)⟩
  · refine ⟨[.non], ?_, ?_⟩
    · unfold g__law_first_bad b__law_first_bad
      simp [h1]
    · rw [h2]; exact eqS_no (n := 2) (by omega) rfl rfl (by simp)
theorem repr_bb (b : Bool) : ∃ z, ∀ M, cRepr [.lst [.bl b, .bl b]] M = some (.str z) := by
  refine repr_ok (n := 2) (d := .lst [.bl b, .bl b]) ?_ (by omega) ?_
  · cases b <;> decide +kernel
  · cases b <;> decide +kernel
theorem told_th {M : Mem} {B : Nat} {d : D} (h : Th M B d) (hB : B ≤ 100000) : g__law_told_right [d, .bl (due d)] M = .ok (.bl true) M := by
  have e := isprog_th h hB
  obtain ⟨z, hz⟩ := repr_bb (due d)
  unfold g__law_told_right b__law_told_right
  have p1 : permL [0] D.non [d] = [d] := rfl
  simp [e, hz, p1]
theorem Stp.st {M : Mem} {T : Int} {L n : Nat} {d : D} (h : Stp T L n d) (hL : L ≤ 400) (hs : nS d ≤ 100000) : St M d := by
  induction h with
  | word bs h1 h2 => exact .atm (.str _ (fun c hc => by obtain ⟨b, _, rfl⟩ := List.mem_map.mp hc; split <;> omega) (by rw [wS_len]; omega))
  | rep t ps h1 h2 hp ih =>
    rw [nS_rep] at hs
    have := Stp.len hp
    exact .t3p (wdS _ (by decide) (by decide)) (.int _) (fun q hq => ih q hq (by have := nS_le hq; omega)) (by omega)
theorem isW_wS {bs : List Bool} (h1 : 1 ≤ bs.length) (h2 : bs.length ≤ 400) : isW (wS bs) = true := by
  unfold isW
  have a : (wS bs).isEmpty = false := by cases bs with
    | nil => simp at h1
    | cons b bs => rfl
  have b : ((wS bs).all fun c => c == 82 || c == 67) = true := by
    rw [List.all_eq_true]
    intro c hc
    obtain ⟨b, _, rfl⟩ := List.mem_map.mp hc
    cases b <;> rfl
  rw [a, b, wS_len, decide_eq_true h2]; rfl
theorem Stp.cnt {T : Int} {L n : Nat} {d : D} (h : Stp T L n d) (hL : L ≤ 400) (hT : T ≤ 1000000000000000000000000000000) : ∀ {m : Nat}, n ≤ m → cntD m d = nS d := by
  induction h with
  | word bs h1 h2 =>
    intro m hm
    rw [cnt_str, nS_str, isW_wS h1 (by omega), if_pos rfl]
  | rep t ps h1 h2 hp ih =>
    intro m hm
    obtain ⟨m, rfl⟩ : ∃ k, m = k + 1 := ⟨m - 1, by omega⟩
    have e : ps.map (cntD m) = ps.map nS := List.map_congr_left fun q hq => ih q hq (by omega)
    have e2 : isR (.str rptS) = true := by decide
    have e3 : tOk 1 1000000000000000000000000000000 (.int t) = true := by
      show (decide (1 ≤ t) && decide (t ≤ 1000000000000000000000000000000)) = true
      rw [decide_eq_true h1, decide_eq_true (by omega)]; rfl
    have e4 : ¬ 0 ∈ ps.map nS := by
      intro h0
      obtain ⟨q, hq, e⟩ := List.mem_map.mp h0
      have := (hp q hq).pos
      omega
    have e5 : ∀ ps : List D, (ps.map nS).sum = nSs ps := by
      intro ps
      induction ps with
      | nil => simp [nSs_nil]
      | cons q ps ih => rw [List.map_cons, List.sum_cons, ih, nSs_cons]
    rw [cnt_s, e2, e3, e, if_pos (show (true && true) = true from rfl), if_neg e4, e5, nS_rep]
theorem fbad_none : ∀ (cs : List Nat) (i tot : Nat), (∀ c ∈ cs, 1 ≤ c) → tot + cs.sum ≤ 60 → fbad i tot cs = none
  | [], _, _, _, _ => rfl
  | c :: cs, i, tot, h, hs => by
    rw [List.sum_cons] at hs
    have := h c (List.mem_cons_self ..)
    rw [fbad, if_neg (by omega)]
    exact fbad_none cs _ _ (fun x hx => h x (List.mem_cons_of_mem _ hx)) (by omega)
theorem due_stp {T : Int} {L : Nat} {ps : List D} (h : ∀ p ∈ ps, Stp T L 4 p) (hL : L ≤ 400) (hT : T ≤ 1000000000000000000000000000000) (hs : nSs ps ≤ 60) : due (.tup ps) = true := by
  show (fbad 0 0 (ps.map (cntD 4))).isNone = true
  have e : ps.map (cntD 4) = ps.map nS := List.map_congr_left fun q hq => (h q hq).cnt hL hT (by omega)
  have e5 : ∀ ps : List D, (ps.map nS).sum = nSs ps := by
    intro ps
    induction ps with
    | nil => simp [nSs_nil]
    | cons q ps ih => rw [List.map_cons, List.sum_cons, ih, nSs_cons]
  rw [e, fbad_none _ 0 0 (fun c hc => by obtain ⟨q, hq, rfl⟩ := List.mem_map.mp hc; exact (h q hq).pos) (by rw [e5]; omega)]
  rfl
theorem mp_gc {n : Nat} {d : D} {M : Mem} (h : Mp M = true) : Mp (gc n d M) = true := by
  unfold gc
  split
  · rename_i hc
    rw [Bool.and_eq_true] at hc
    by_cases hl : n ≤ M.length
    · have e : (M.take n).length = n := by rw [List.length_take]; omega
      unfold Mp
      rw [e]; exact hc.2
    · rw [List.take_of_length_le (by omega)]; exact h
  · exact h
theorem right_ok {M : Mem} {n : Nat} (hP : Pool M n) (hMp : Mp M = true) : Ev (g__law_right [.ref n] M) fun d M' => d = .bl true ∧ Mp M' = true := by
  refine Ev.hide fun Q hQ => ?_
  unfold g__law_right b__law_right
  simp
  refine (program_ok (small := false) 5 (fuel := 12) (most := 60) (by omega) (by omega) (by omega) (by omega) hP hMp).k ?_
  rintro _ M1 ⟨ps, rfl, hps, hs, d1⟩
  have hlen := Stp.len hps
  have hst : ∀ M, ∀ p ∈ ps, St M p := fun M p hp => (hps p hp).st (by omega) (by have := nS_le hp; omega)
  have hdue : due (.tup ps) = true := due_stp hps (by omega) (by decide) hs
  have ht := told_th (M := M1) (.tup ps (hst M1) (Nat.le_refl _)) (by omega)
  rw [hdue] at ht
  have s12 : small62 12 = true := by decide
  simp [ht, s12]
  refine Ev.k (P := fun fl M' => ∃ σ, fl = .nx σ ∧ Mp M' = true) ?_ ?_
  · refine Ev.hide fun Q hQ => ?_
    refine Ev.loop (fun σ M' => (∃ w2 w3 w4, σ = [some (.ref n), some (.tup ps), w2, w3, w4]) ∧ Pool M' n ∧ Mp M' = true) ?_ ⟨⟨_, _, _, rfl⟩, d1.pool, d1.mp hMp⟩ ?_
    · rintro x - σ M2 ⟨⟨w2, w3, w4, rfl⟩, hP2, hM2⟩ Q2 hn - - -
      simp [p__law_right_1]
      refine Ev.k (bent_ok (B := 60) hP2 hM2 (hst M2) (by omega) (by omega)) ?_
      rintro d M3 ⟨ms3, t3⟩
      have k3 := told_th t3 (by omega)
      obtain ⟨L3, b3, c3⟩ := bad_th t3 (by omega)
      rcases t3.nt with ⟨qs, rfl, h1, h2⟩ | ⟨h1, h2⟩
      · simp [b3, c3, k3]
        refine Ev.k (bent_ok (B := 680) ms3.pool ms3.mp h1 (by omega) (by omega)) ?_
        rintro d4 M4 ⟨ms4, t4⟩
        have k4 := told_th t4 (by omega)
        obtain ⟨L4, b4, c4⟩ := bad_th t4 (by omega)
        simp [b4, c4, k4]
        exact hn _ _ ⟨⟨_, _, _, rfl⟩, ms4.pool, ms4.mp⟩
      · simp [b3, c3, k3, h1]
        exact hn _ _ ⟨⟨_, _, _, rfl⟩, ms3.pool, ms3.mp⟩
    · rintro σ M' ⟨⟨w2, w3, w4, rfl⟩, h2, h3⟩
      exact hQ _ _ ⟨_, rfl, h3⟩
  · rintro _ M' ⟨σ, rfl, h⟩
    simp
    exact hQ _ _ ⟨rfl, mp_gc h⟩

/-! ### at every limit -/
def dpP : Nat → D
  | 0 => .tup [.str [82]]
  | k + 1 => .tup [.tup [.str [114, 101, 112, 101, 97, 116], .int 1, dpP k]]
def rpT (t : Int) (ps : List D) : D := .tup [.tup [.str [114, 101, 112, 101, 97, 116], .int t, .tup ps]]
def limA : List D := [dpP 0, dpP 1, dpP 2, dpP 3, dpP 4, dpP 5]
def limB (a b c : List D) : List D := [.tup a, .tup b, rpT 3 c, rpT 3 a]
def limC (x y : List Nat) : List D := [.tup [.str x], .tup [.str y], .tup [], rpT 1000000000000000000000000000000 [], rpT 1000000000000000000000000000001 []]
def limD (x : List Nat) : List D := [.tup [.str [82, 67], .str x], .tup [.str [82, 67], .str [83]], rpT 0 [.str [82]], .tup [.str [114, 101, 112, 101, 97, 116], .int 1, .tup []]]
theorem addN_refL {N : Mem} {k : Nat} {xs ys : List D} (h : N[k]? = some (.lst xs)) (hl : xs.length + ys.length ≤ 16777216) : dAddN (.ref k) (.lst ys) N = .ok (.ref N.length) (N ++ [.lst (xs ++ ys)]) := by
  have e1 : lstO (.ref k) N = some xs := by
    show (match N[k]? with
      | some (.lst xs) => some xs
      | _ => none) = _
    rw [h]
  have e2 : dAddN (.ref k) (.lst ys) N = optO (lstO (.ref k) N) fun a => optO (lstO (.lst ys) N) fun b => if a.length + b.length ≤ 16777216 then .ok (.ref N.length) (N ++ [.lst (a ++ b)]) else .bad := nrfl rfl
  rw [e2, e1]
  show (if xs.length + ys.length ≤ 16777216 then _ else Out.bad) = _
  rw [if_pos hl]
theorem add_refL {N : Mem} {k : Nat} {xs ys : List D} (h : N[k]? = some (.lst xs)) (hl : xs.length + ys.length ≤ 16777216) : dAdd (.ref k) (.lst ys) N = .ok (.lst (xs ++ ys)) N := by
  have e1 : lstO (.ref k) N = some xs := by
    show (match N[k]? with
      | some (.lst xs) => some xs
      | _ => none) = _
    rw [h]
  have e2 : dAdd (.ref k) (.lst ys) N = optO (lstO (.ref k) N) fun a => optO (lstO (.lst ys) N) fun b => if a.length + b.length ≤ 16777216 then .ok (.lst (a ++ b)) N else .bad := nrfl rfl
  rw [e2, e1]
  show (if xs.length + ys.length ≤ 16777216 then Out.ok (D.lst (xs ++ ys)) N else .bad) = _
  rw [if_pos hl]
theorem pure_nil : (D.tup []).pure = true := by simp [D.pure, D.pures]
theorem dpP_pure : ∀ k, (dpP k).pure = true
  | 0 => by simp [dpP, D.pure, D.pures]
  | k + 1 => by
    have := dpP_pure k
    simp [dpP, D.pure, D.pures, this]
theorem limits_ok {M : Mem} (hM : Mp M = true) : g__law_at_limits [] M = .ok (.lst (limA ++ limB (List.replicate 60 (.str [82])) (List.replicate 61 (.str [67])) (List.replicate 59 (.str [82])) ++ limC (repS 400 [82]) (repS 401 [67]) ++ limD (repS 200 [67, 82]))) M := by
  have m60 : ∀ M, dMulT (.tup [.str [82]]) (.int 60) M = .ok (.tup (List.replicate 60 (.str [82]))) M := fun M => nrfl rfl
  have m59 : ∀ M, dMulT (.tup [.str [82]]) (.int 59) M = .ok (.tup (List.replicate 59 (.str [82]))) M := fun M => nrfl rfl
  have m61 : ∀ M, dMulT (.tup [.str [67]]) (.int 61) M = .ok (.tup (List.replicate 61 (.str [67]))) M := fun M => nrfl rfl
  have pa : ∀ z : List Nat, ∀ n : Nat, ∀ d ∈ List.replicate n (D.str z), d.pure = true := fun z n d hd => by
    rw [(List.mem_replicate.mp hd).2]; unfold D.pure; rfl
  have pa60 := pa [82] 60
  have pa61 := pa [67] 61
  have pa59 := pa [82] 59
  generalize List.replicate 60 (D.str [82]) = a at *
  generalize List.replicate 61 (D.str [67]) = b at *
  generalize List.replicate 59 (D.str [82]) = c at *
  have loop : ∀ (xs : List D) (i : Nat) (w : Option D), i + xs.length ≤ 1000 → ∃ w', forL (gSet 2) p__law_at_limits_1 xs [some (dpP i), some (.ref M.length), w] (M ++ [.lst ((List.range i).map dpP)]) = .ok (.nx [some (dpP (i + xs.length)), some (.ref M.length), w']) (M ++ [.lst ((List.range (i + xs.length)).map dpP)]) := by
    intro xs
    induction xs with
    | nil => intro i w _; exact ⟨w, rfl⟩
    | cons x xs ih =>
      intro i w hi
      rw [List.length_cons] at hi
      obtain ⟨w', e⟩ := ih (i + 1) (some x) (by omega)
      refine ⟨w', ?_⟩
      have get : (M ++ [MO.lst ((List.range i).map dpP)])[M.length]? = some (.lst ((List.range i).map dpP)) := by simp
      have hap := ev_append (d := dpP i) get (by rw [List.length_map, List.length_range]; omega)
      have ty := ev_tymref get
      have e1 : (M ++ [MO.lst ((List.range i).map dpP)]).set M.length (.lst ((List.range i).map dpP ++ [dpP i])) = M ++ [.lst ((List.range (i + 1)).map dpP)] := by
        rw [List.set_append_right _ _ (Nat.le_refl _), List.range_succ, List.map_append]; simp
      rw [e1] at hap
      have e2 : i + (x :: xs).length = i + 1 + xs.length := by rw [List.length_cons]; omega
      rw [e2, forL_cons]
      generalize (List.range i).map dpP = l1 at *
      generalize (List.range (i + 1)).map dpP = l2 at *
      have e3 : dpP (i + 1) = .tup [.tup [.str [114, 101, 112, 101, 97, 116], .int 1, dpP i]] := rfl
      rw [e3] at e
      generalize dpP i = di at *
      simp [p__law_at_limits_1, ty, hap]
      exact e
  obtain ⟨w', e⟩ := loop (rngL 0 6) 0 none (by rw [rngL_len]; omega)
  rw [rngL_len, show 0 + 6 = 6 from rfl, show (List.range 6).map dpP = limA from rfl, show (List.range 0).map dpP = [] from rfl] at e
  have e' : forL (gSet 2) p__law_at_limits_1 (rngL 0 6) [some (.tup [.str [82]]), some (.ref M.length), none] (M ++ [.lst []]) = .ok (.nx [some (dpP 6), some (.ref M.length), w']) (M ++ [.lst limA]) := e
  have s6 : small62 6 = true := by decide
  have a1 : ∀ X : List D, X.length ≤ 1000 → dAddN (.ref M.length) (.lst X) (M ++ [.lst limA]) = .ok (.ref (M.length + 1)) ((M ++ [.lst limA]) ++ [.lst (limA ++ X)]) := fun X hX => by
    have := addN_refL (N := M ++ [.lst limA]) (k := M.length) (xs := limA) (ys := X) (by simp) (by show 6 + _ ≤ _; omega)
    rw [this]; simp
  have a2 : ∀ X Y : List D, X.length ≤ 1000 → Y.length ≤ 1000 → dAddN (.ref (M.length + 1)) (.lst Y) ((M ++ [.lst limA]) ++ [.lst X]) = .ok (.ref (M.length + 2)) (((M ++ [.lst limA]) ++ [.lst X]) ++ [.lst (X ++ Y)]) := fun X Y hX hY => by
    have := addN_refL (N := (M ++ [.lst limA]) ++ [.lst X]) (k := M.length + 1) (xs := X) (ys := Y) (by simp) (by omega)
    rw [this]; simp
  have a3 : ∀ X Y Z : List D, Y.length ≤ 1000 → Z.length ≤ 1000 → dAdd (.ref (M.length + 2)) (.lst Z) (((M ++ [.lst limA]) ++ [.lst X]) ++ [.lst Y]) = .ok (.lst (Y ++ Z)) (((M ++ [.lst limA]) ++ [.lst X]) ++ [.lst Y]) := fun X Y Z hY hZ => add_refL (by simp) (by omega)
  have b1 := a1 (limB a b c) (show 4 ≤ 1000 by omega)
  have b2 := a2 (limA ++ limB a b c) (limC (repS 400 [82]) (repS 401 [67])) (show 10 ≤ 1000 by omega) (show 5 ≤ 1000 by omega)
  have b3 := a3 (limA ++ limB a b c) (limA ++ limB a b c ++ limC (repS 400 [82]) (repS 401 [67])) (limD (repS 200 [67, 82])) (show 15 ≤ 1000 by omega) (show 4 ≤ 1000 by omega)
  have hg : gc M.length (.lst (limA ++ limB a b c ++ limC (repS 400 [82]) (repS 401 [67]) ++ limD (repS 200 [67, 82]))) (((M ++ [.lst limA]) ++ [.lst (limA ++ limB a b c)]) ++ [.lst (limA ++ limB a b c ++ limC (repS 400 [82]) (repS 401 [67]))]) = M := by
    have ea : ∀ x y z : MO, (M ++ [x]) ++ [y] ++ [z] = M ++ [x, y, z] := fun x y z => by simp
    rw [ea]
    refine gc_app hM ?_
    show D.pures _ = true
    refine pures_of fun d hd => ?_
    have pt : ∀ ps : List D, (∀ d ∈ ps, d.pure = true) → (D.tup ps).pure = true := fun ps h => pure_tup h
    have ps : ∀ z : List Nat, (D.str z).pure = true := fun z => by unfold D.pure; rfl
    have pi : ∀ i : Int, (D.int i).pure = true := fun i => pure_int
    have p1 := dpP_pure
    have qa := pt a pa60
    have qb := pt b pa61
    have qc := pt c pa59
    have pr : ∀ t X, (D.tup X).pure = true → (rpT t X).pure = true := fun t X h => by
      unfold rpT
      refine pt _ fun d hd => ?_
      rw [List.mem_singleton.mp hd]
      refine pt _ fun d hd => ?_
      simp only [List.mem_cons, List.not_mem_nil, or_false] at hd
      rcases hd with rfl | rfl | rfl
      · exact ps _
      · exact pi _
      · exact h
    have pnil := pure_nil
    have p1s : ∀ z, (D.tup [.str z]).pure = true := fun z => pt _ fun d hd => by rw [List.mem_singleton.mp hd]; exact ps z
    simp only [limA, limB, limC, limD, List.mem_append, List.mem_cons, List.not_mem_nil, or_false] at hd
    rcases hd with ((((rfl | rfl | rfl | rfl | rfl | rfl) | (rfl | rfl | rfl | rfl)) | (rfl | rfl | rfl | rfl | rfl)) | (rfl | rfl | rfl | rfl)) <;> first | exact p1 _ | exact qa | exact qb | exact pr _ _ qc | exact pr _ _ qa | exact p1s _ | exact pnil | exact pr _ _ pnil | exact pr _ _ (p1s _) | skip
  generalize hL4 : limA ++ limB a b c ++ limC (repS 400 [82]) (repS 401 [67]) ++ limD (repS 200 [67, 82]) = L4 at *
  generalize hL3 : limA ++ limB a b c ++ limC (repS 400 [82]) (repS 401 [67]) = L3 at *
  generalize hL2 : limA ++ limB a b c = L2 at *
  unfold limB rpT at b1
  unfold limC rpT at b2
  unfold limD rpT at b3
  generalize limA = L1 at *
  unfold g__law_at_limits b__law_at_limits
  simp [m60, m59, m61, s6, e']
  simp only [List.append_assoc, List.cons_append, List.nil_append] at b1 b2 b3 hg
  simp [b1, b2, b3, hg]

def strB (z : List Nat) : Bool := (z.all fun c => decide (c < 1000)) && decide (z.length ≤ 10000)
def wdB : D → Bool
  | .str z => strB z
  | .int _ => true
  | .lst [] => true
  | _ => false
def atB : D → Bool
  | .str z => strB z
  | .int _ => true
  | .bl _ => true
  | .non => true
  | .lst [] => true
  | _ => false
def stB : Nat → D → Bool
  | 0, _ => false
  | n + 1, .tup [w, t, .tup ps] => wdB w && (atB t && ((ps.all (stB n)) && decide (ps.length ≤ 100000)))
  | n + 1, .tup [w, t, p] => wdB w && (atB t && atB p)
  | n + 1, .tup ds => decide (ds.length ≠ 3) && decide (ds.length ≤ 100000)
  | n + 1, d => atB d
theorem strB_ok {z : List Nat} (h : strB z = true) : (∀ c ∈ z, c < 1000) ∧ z.length ≤ 10000 := by
  unfold strB at h
  rw [Bool.and_eq_true, decide_eq_true_eq] at h
  exact ⟨fun c hc => by simpa using List.all_eq_true.mp h.1 c hc, h.2⟩
theorem wdB_ok {M : Mem} {d : D} (h : wdB d = true) : Wd M d := by
  cases d with
  | str z => exact .str z (strB_ok h).1 (strB_ok h).2
  | int i => exact .int i
  | lst ds => cases ds with
    | nil => exact .lst _ (.inl rfl)
    | cons a b => cases h
  | _ => cases h
theorem atB_ok {M : Mem} {d : D} (h : atB d = true) : At M d := by
  cases d with
  | str z => exact .str z (strB_ok h).1 (strB_ok h).2
  | int i => exact .int i
  | bl b => exact .bl b
  | non => exact .non
  | lst ds => cases ds with
    | nil => exact .lst _ (.inl rfl)
    | cons a b => cases h
  | _ => cases h
theorem stB_ok {M : Mem} : ∀ (n : Nat) (d : D), stB n d = true → St M d := by
  intro n
  induction n with
  | zero => intro d h; simp [stB] at h
  | succ n ih =>
    intro d h
    unfold stB at h
    split at h
    · cases ‹_ = _›
    · rename_i n' w t ps e1
      cases e1
      simp only [Bool.and_eq_true, decide_eq_true_eq] at h
      exact .t3p (wdB_ok h.1) (atB_ok h.2.1) (fun q hq => ih q (List.all_eq_true.mp h.2.2.1 q hq)) h.2.2.2
    · rename_i n' w t p _ e1
      cases e1
      simp only [Bool.and_eq_true] at h
      exact .t3 (wdB_ok h.1) (atB_ok h.2.1) (atB_ok h.2.2)
    · rename_i n' ds _ _ e1
      cases e1
      simp only [Bool.and_eq_true, decide_eq_true_eq] at h
      exact .tn ds h.1 h.2
    · exact .atm (atB_ok h)
def thB : D → Bool
  | .tup ps => (ps.all (stB 8)) && decide (ps.length ≤ 100)
  | d => atB d
theorem thB_ok {M : Mem} {d : D} (h : thB d = true) : Th M 100 d := by
  unfold thB at h
  split at h
  · rename_i ps
    simp only [Bool.and_eq_true, decide_eq_true_eq] at h
    exact .tup ps (fun p hp => stB_ok 8 p (List.all_eq_true.mp h.1 p hp)) h.2
  · exact .atm (atB_ok h)
def twins : List D := [rpT 1 [], .tup [.tup [.str [114, 101, 112, 101, 97, 116], .bl true, .tup []]], .tup [.str [82], .tup [.str [114, 101, 112, 101, 97, 116], .int 1, .tup [.str [67]]]], .tup [.str [82], .tup [.str [114, 101, 112, 101, 97, 116], .bl true, .tup [.str [67]]]]]
def limL : List D := limA ++ limB (List.replicate 60 (.str [82])) (List.replicate 61 (.str [67])) (List.replicate 59 (.str [82])) ++ limC (repS 400 [82]) (repS 401 [67]) ++ limD (repS 200 [67, 82])
def allL : List D := limL ++ twins ++ twins
def dues : List Bool := [true, true, true, true, true, false, true, false, true, false, true, false, true, true, false, true, false, false, false, true, false, true, false, true, false, true, false]
theorem all_th : (allL.all thB) = true := by decide +kernel
theorem all_due : ((allL.zip dues).all fun p => due p.1 == p.2) = true := by decide +kernel
theorem zw_zip : ∀ (xs : List D) (bs : List Bool), List.zipWith (fun x y => D.tup [x, y]) xs (bs.map D.bl) = (xs.zip bs).map fun p => .tup [p.1, .bl p.2]
  | [], _ => rfl
  | _ :: _, [] => rfl
  | x :: xs, b :: bs => by
    rw [List.map_cons, List.zipWith_cons_cons, List.zip_cons_cons, List.map_cons, zw_zip xs bs]
theorem loop1 {M : Mem} {a b c w3 w4 w5 w6 : Option D} : Ev (forL (gTup 2 (gsCons (gSet 3) (gsCons (gSet 4) (gsNil)))) p_law_1 (List.zipWith (fun x y => D.tup [x, y]) allL (dues.map D.bl)) [a, b, c, w3, w4, w5, w6] M) fun fl M' => (∃ w3 w4, fl = .nx [a, b, c, w3, w4, w5, w6]) ∧ M' = M := by
  refine Ev.hide fun Q hQ => ?_
  rw [zw_zip]
  refine Ev.loop (fun σ M' => (∃ w3 w4, σ = [a, b, c, w3, w4, w5, w6]) ∧ M' = M) ?_ ⟨⟨_, _, rfl⟩, rfl⟩ ?_
  · rintro x hx _ M2 ⟨⟨v3, v4, rfl⟩, hM2⟩ Q2 hn - - -
    obtain ⟨⟨d, g⟩, hp, rfl⟩ := List.mem_map.mp hx
    have h1 := List.all_eq_true.mp all_th d (List.of_mem_zip hp).1
    have h2 := List.all_eq_true.mp all_due (d, g) hp
    have h3 : due d = g := by simpa using h2
    have t := thB_ok (M := M2) h1
    have k := told_th t (by omega)
    obtain ⟨L, b1, c1⟩ := bad_th t (by omega)
    rw [h3] at k c1
    simp [p_law_1, k, b1, c1]
    exact hn _ _ ⟨⟨_, _, rfl⟩, hM2⟩
  · rintro σ M' ⟨⟨v3, v4, rfl⟩, rfl⟩
    exact hQ _ _ ⟨⟨_, _, rfl⟩, rfl⟩
theorem step_ok {M : Mem} {a b c w4 w6 : Option D} {s : D} {w3 : Option D} (h : St M s) (h4 : cntD 4 s = 0) (h3 : cntD 3 s = 0) : p_law_3 [a, b, c, w3, w4, some s, w6] M = .ok (.nx [a, b, c, some (.tup [.tup [.str [114, 101, 112, 101, 97, 116], .int 2, .tup [.str [82], s]]]), w4, some s, w6]) M := by
  have t1 := told_th (M := M) (B := 10) (.tup [s] (stCons h stNil) (by simp)) (by omega)
  have hR : St M (.str [82]) := .atm (atS _ rfl (by decide))
  have t2 := told_th (M := M) (B := 10) (.tup [.str [82], s] (stCons hR (stCons h stNil)) (by simp)) (by omega)
  have t3 := told_th (M := M) (B := 10) (.tup [.tup [.str [114, 101, 112, 101, 97, 116], .int 2, .tup [.str [82], s]]] (stCons (.t3p wdR (.int 2) (stCons hR (stCons h stNil)) (by simp)) stNil) (by simp)) (by omega)
  have d1 : due (.tup [s]) = false := by simp [due, fbad, h4]
  have cR : ∀ n, cntD n (.str [82]) = 1 := fun n => by rw [cnt_str]; rfl
  have d2 : due (.tup [.str [82], s]) = false := by simp [due, fbad, h4, cR]
  have d3 : due (.tup [.tup [.str [114, 101, 112, 101, 97, 116], .int 2, .tup [.str [82], s]]]) = false := by
    have : cntD 4 (.tup [.str [114, 101, 112, 101, 97, 116], .int 2, .tup [.str [82], s]]) = 0 := by
      rw [cnt_s, List.map_cons, List.map_cons, h3]; simp
    simp [due, fbad, this]
  rw [d1] at t1
  rw [d2] at t2
  rw [d3] at t3
  simp [p_law_3, p_law_2, forL_cons, t1, t2, t3]
theorem good : ∀ ns : List Int, ns.length ≤ 63 → ∃ M, g_law [.fl (ns.map D.int)] [] = .ok (.bl true) M := by
  intro ns hns
  have key : Ev (g_law [.fl (ns.map D.int)] []) fun d M => d = .bl true := by
    refine Ev.hide fun Q hQ => ?_
    obtain ⟨k, hk, hk2⟩ := pool_count 6 (by omega) (by omega) ns.length (by omega)
    have hs : small62 (k : Int) = true := small_ok (by omega)
    have hk3 : k < 16777216 := by omega
    have hM : Mp [.lst twins] = true := by decide +kernel
    have hlim := limits_ok hM
    have hM2 : Mp [.lst twins, .dct []] = true := by decide +kernel
    unfold g_law b_law
    have m5 : ∀ M, dMulT (.lst [.bl true]) (.int 5) M = .ok (.lst [.bl true, .bl true, .bl true, .bl true, .bl true]) M := fun M => nrfl rfl
    have m4 : ∀ M, dMulT (.lst [.bl true, .bl false]) (.int 4) M = .ok (.lst [.bl true, .bl false, .bl true, .bl false, .bl true, .bl false, .bl true, .bl false]) M := fun M => nrfl rfl
    have ty : ∀ X : List D, tyM (.ref 0) [.lst X] = some "list" := fun X => rfl
    have ap : mAppend (.ref 0) [.tup [.str [82], .tup [.str [114, 101, 112, 101, 97, 116], .bl true, .tup [.str [67]]]]] [.lst [.tup [.tup [.str [114, 101, 112, 101, 97, 116], .int 1, .tup []]], .tup [.tup [.str [114, 101, 112, 101, 97, 116], .bl true, .tup []]], .tup [.str [82], .tup [.str [114, 101, 112, 101, 97, 116], .int 1, .tup [.str [67]]]]]] = .ok .non [.lst twins] := nrfl rfl
    have ar : ∀ X : List D, X.length ≤ 1000 → dAdd (.lst X) (.ref 0) [.lst twins] = .ok (.lst (X ++ twins)) [.lst twins] := fun X hX => by
      have e2 : dAdd (.lst X) (.ref 0) [.lst twins] = if X.length + twins.length ≤ 16777216 then .ok (.lst (X ++ twins)) [.lst twins] else .bad := nrfl rfl
      have hl : twins.length = 4 := rfl
      rw [e2, if_pos (by omega)]
    have ar1 := ar limL (show 19 ≤ 1000 by omega)
    have ar2 := ar (limL ++ twins) (show 23 ≤ 1000 by omega)
    have hlim' : g__law_at_limits [] [.lst twins] = .ok (.lst limL) [.lst twins] := hlim
    have hall : limL ++ twins ++ twins = allL := rfl
    rw [hall] at ar2
    have l1 := loop1 (M := [.lst twins]) (a := some (.fl (ns.map .int))) (b := some (.lst (([true, true, true, true, true, false, true, false, true, false, true, false, true, true, false, true, false, false, false] : List Bool).map .bl))) (c := some (.ref 0)) (w3 := none) (w4 := none) (w5 := none) (w6 := none)
    unfold dues at l1
    simp only [List.map_cons, List.map_nil] at l1
    generalize limL ++ twins = L5 at *
    simp [m5, m4, ty, ap, hlim', ar1, ar2]
    refine Ev.k l1 ?_
    rintro _ _ ⟨⟨w3, w4, rfl⟩, rfl⟩
    have hd : [MO.lst twins, .dct []][1]? = some (.dct []) := rfl
    have q1 : St [MO.lst twins, .dct []] (.tup []) := .tn _ (by decide) (by decide)
    have q2 : St [MO.lst twins, .dct []] (.tup [.lst [], .int 2, .tup []]) := .t3p (.lst _ (.inl rfl)) (.int _) stNil (by decide)
    have q3 : St [MO.lst twins, .dct []] (.tup [.ref 1, .int 2, .tup [.str [82]]]) := .t3p (.dct _ hd) (.int _) (stCons (.atm (atS _ rfl (by decide))) stNil) (by decide)
    have q4 : St [MO.lst twins, .dct []] (.tup [.lst [], .int 1, .int 1]) := .t3 (.lst _ (.inl rfl)) (.int _) (.int _)
    have s1 := fun a b c w4 w6 w3 => step_ok (a := a) (b := b) (c := c) (w4 := w4) (w6 := w6) (w3 := w3) q1 rfl rfl
    have s2 := fun a b c w4 w6 w3 => step_ok (a := a) (b := b) (c := c) (w4 := w4) (w6 := w6) (w3 := w3) q2 rfl rfl
    have s3 := fun a b c w4 w6 w3 => step_ok (a := a) (b := b) (c := c) (w4 := w4) (w6 := w6) (w3 := w3) q3 rfl rfl
    have s4 := fun a b c w4 w6 w3 => step_ok (a := a) (b := b) (c := c) (w4 := w4) (w6 := w6) (w3 := w3) q4 rfl rfl
    simp [forL_cons, s1, s2, s3, s4, hk, hs, hk3]
    refine Ev.k (all_poolsI rfl right_ok ns hk2 hM2 (fun _ => rfl) (fun _ => rfl)) ?_
    rintro ys M' ⟨hy, hM'⟩
    simp [all_true hy]
    exact hQ _ _ rfl
  obtain ⟨d, M, e, rfl⟩ := key
  exact ⟨M, e⟩

theorem all_has {P : Program} {w : World} {K : PySem.W.Frag} {mg : Str → Option Value} (T : Top K mg) (base : Heap) : Has P w K mg base 28 "law" s_law ["_law_script"] g_law := by
  have h__law_at_limits := KP.h__law_at_limits (P := P) (w := w) (base := base) T 
  have h_is_word := KP.h_is_word (P := P) (w := w) (base := base) T 
  have h_is_integer := KP.h_is_integer (P := P) (w := w) (base := base) T 
  have h_steps_in := KP.h_steps_in (P := P) (w := w) (base := base) T h_is_word h_is_integer
  have h_first_invalid := KP.h_first_invalid (P := P) (w := w) (base := base) T h_steps_in
  have h_is_program := KP.h_is_program (P := P) (w := w) (base := base) T h_first_invalid
  have h__law_told_right := KP.h__law_told_right (P := P) (w := w) (base := base) T h_is_program
  have h__law_whole := KP.h__law_whole (P := P) (w := w) (base := base) T 
  have h__law_counted := KP.h__law_counted (P := P) (w := w) (base := base) T h__law_whole
  have h__law_first_bad := KP.h__law_first_bad (P := P) (w := w) (base := base) T h__law_counted
  have h__law_draw := KP.h__law_draw (P := P) (w := w) (base := base) T 
  have h__law_times := KP.h__law_times (P := P) (w := w) (base := base) T h__law_draw
  have h__law_word := KP.h__law_word (P := P) (w := w) (base := base) T h__law_draw
  have h__law_steps := KP.h__law_steps (P := P) (w := w) (base := base) T 
  have h__law_program := KP.h__law_program (P := P) (w := w) (base := base) T h__law_draw h__law_times h__law_word h__law_steps
  have h__law_bent := KP.h__law_bent (P := P) (w := w) (base := base) T h__law_draw
  have h__law_right := KP.h__law_right (P := P) (w := w) (base := base) T h__law_told_right h__law_first_bad h__law_program h__law_bent
  have h__law_pool := KP.h__law_pool (P := P) (w := w) (base := base) T 
  have h__law_cell := KP.h__law_cell (P := P) (w := w) (base := base) T 
  exact KP.h_law (P := P) (w := w) (base := base) T h__law_at_limits h__law_told_right h__law_first_bad h__law_right h__law_pool h__law_cell
theorem top_mk {K : PySem.W.Frag} {h : Heap} {mg : Str → Option Value} (X : K.In h) (G : h.Ns mainGlobals mg)
    {k0 : Addr} {n0 : Nat} {kl0 : Array (Option Value)} {u0_0 u0_1 : Tok}
    {t1 : Tok}
    {t2 : Tok}
    {t3 : Tok}
    {t4 : Tok}
    {t5 : Tok}
    {f23 : Addr} {oc23 kV23 dc23 pm23 cd23 ct23 : Value} {od23 an23 : Option Addr} {sl23 : Array (Option Value)}
    {f24 : Addr} {oc24 kV24 dc24 pm24 cd24 ct24 : Value} {od24 an24 : Option Addr} {sl24 : Array (Option Value)}
    {f25 : Addr} {oc25 kV25 dc25 pm25 cd25 ct25 : Value} {od25 an25 : Option Addr} {sl25 : Array (Option Value)}
    {f26 : Addr} {oc26 kV26 dc26 pm26 cd26 ct26 : Value} {od26 an26 : Option Addr} {sl26 : Array (Option Value)}
    {f27 : Addr} {oc27 kV27 dc27 pm27 cd27 ct27 : Value} {od27 an27 : Option Addr} {sl27 : Array (Option Value)}
    {f28 : Addr} {oc28 kV28 dc28 pm28 cd28 ct28 : Value} {od28 an28 : Option Addr} {sl28 : Array (Option Value)}
    {f29 : Addr} {oc29 kV29 dc29 pm29 cd29 ct29 : Value} {od29 an29 : Option Addr} {sl29 : Array (Option Value)}
    {f30 : Addr} {oc30 kV30 dc30 pm30 cd30 ct30 : Value} {od30 an30 : Option Addr} {sl30 : Array (Option Value)}
    {f31 : Addr} {oc31 kV31 dc31 pm31 cd31 ct31 : Value} {od31 an31 : Option Addr} {sl31 : Array (Option Value)}
    {f32 : Addr} {oc32 kV32 dc32 pm32 cd32 ct32 : Value} {od32 an32 : Option Addr} {sl32 : Array (Option Value)}
    {f33 : Addr} {oc33 kV33 dc33 pm33 cd33 ct33 : Value} {od33 an33 : Option Addr} {sl33 : Array (Option Value)}
    {f34 : Addr} {oc34 kV34 dc34 pm34 cd34 ct34 : Value} {od34 an34 : Option Addr} {sl34 : Array (Option Value)}
    {f35 : Addr} {oc35 kV35 dc35 pm35 cd35 ct35 : Value} {od35 an35 : Option Addr} {sl35 : Array (Option Value)}
    {f36 : Addr} {oc36 kV36 dc36 pm36 cd36 ct36 : Value} {od36 an36 : Option Addr} {sl36 : Array (Option Value)}
    {f37 : Addr} {oc37 kV37 dc37 pm37 cd37 ct37 : Value} {od37 an37 : Option Addr} {sl37 : Array (Option Value)}
    {f38 : Addr} {oc38 kV38 dc38 pm38 cd38 ct38 : Value} {od38 an38 : Option Addr} {sl38 : Array (Option Value)}
    {f39 : Addr} {oc39 kV39 dc39 pm39 cd39 ct39 : Value} {od39 an39 : Option Addr} {sl39 : Array (Option Value)}
    {f40 : Addr} {oc40 kV40 dc40 pm40 cd40 ct40 : Value} {od40 an40 : Option Addr} {sl40 : Array (Option Value)}
    {f41 : Addr} {oc41 kV41 dc41 pm41 cd41 ct41 : Value} {od41 an41 : Option Addr} {sl41 : Array (Option Value)}
    {f42 : Addr} {oc42 kV42 dc42 pm42 cd42 ct42 : Value} {od42 an42 : Option Addr} {sl42 : Array (Option Value)}
    (a0_0 : PySem.W.nsIn K mainGlobals "KINDS" = some (some (.ref k0)))
    (a0_1 : K.lookup k0 = some ⟨.type "tuple", none, .seq #[.str ⟨[82].toArray⟩ u0_0, .str ⟨[67].toArray⟩ u0_1] n0, kl0⟩)
    (a1_0 : PySem.W.nsIn K mainGlobals "MOST_LETTERS" = some (some (.int 400 t1)))
    (a2_0 : PySem.W.nsIn K mainGlobals "MOST_NESTED" = some (some (.int 5 t2)))
    (a3_0 : PySem.W.nsIn K mainGlobals "MOST_STEPS" = some (some (.int 60 t3)))
    (a4_0 : PySem.W.nsIn K mainGlobals "MOST_TIMES" = some (some (.int 1000000000000000000000000000000 t4)))
    (a5_0 : PySem.W.nsIn K mainGlobals "REPEAT" = some (some (.str ⟨[114, 101, 112, 101, 97, 116].toArray⟩ t5)))
    (a6_0 : PySem.W.nsIn K mainGlobals "abs" = some none)
    (a7_0 : PySem.W.nsIn K mainGlobals "all" = some none)
    (a8_0 : PySem.W.nsIn K mainGlobals "bool" = some none)
    (a9_0 : PySem.W.nsIn K mainGlobals "divmod" = some none)
    (a10_0 : PySem.W.nsIn K mainGlobals "enumerate" = some none)
    (a11_0 : PySem.W.nsIn K mainGlobals "int" = some none)
    (a12_0 : PySem.W.nsIn K mainGlobals "isinstance" = some none)
    (a13_0 : PySem.W.nsIn K mainGlobals "len" = some none)
    (a14_0 : PySem.W.nsIn K mainGlobals "list" = some none)
    (a15_0 : PySem.W.nsIn K mainGlobals "max" = some none)
    (a16_0 : PySem.W.nsIn K mainGlobals "min" = some none)
    (a17_0 : PySem.W.nsIn K mainGlobals "range" = some none)
    (a18_0 : PySem.W.nsIn K mainGlobals "repr" = some none)
    (a19_0 : PySem.W.nsIn K mainGlobals "str" = some none)
    (a20_0 : PySem.W.nsIn K mainGlobals "sum" = some none)
    (a21_0 : PySem.W.nsIn K mainGlobals "tuple" = some none)
    (a22_0 : PySem.W.nsIn K mainGlobals "zip" = some none)
    (a23_0 : PySem.W.nsIn K mainGlobals "_law_at_limits" = some (some (.ref f23)))
    (a23_1 : K.lookup f23 = some ⟨oc23, od23, .func (PySem.W.fnOf "_law_at_limits" "_law_at_limits" (defArgs s__law_at_limits) (defBody s__law_at_limits) (defScope s__law_at_limits) .none kV23 dc23 pm23 an23 cd23 ct23), sl23⟩)
    (a23_2 : PySem.W.codeIn K cd23 "_law_at_limits" = true)
    (a23_3 : PySem.W.keepIn K (.ref f23) = true)
    (a24_0 : PySem.W.nsIn K mainGlobals "is_word" = some (some (.ref f24)))
    (a24_1 : K.lookup f24 = some ⟨oc24, od24, .func (PySem.W.fnOf "is_word" "is_word" (defArgs s_is_word) (defBody s_is_word) (defScope s_is_word) .none kV24 dc24 pm24 an24 cd24 ct24), sl24⟩)
    (a24_2 : PySem.W.codeIn K cd24 "is_word" = true)
    (a24_3 : PySem.W.keepIn K (.ref f24) = true)
    (a25_0 : PySem.W.nsIn K mainGlobals "is_integer" = some (some (.ref f25)))
    (a25_1 : K.lookup f25 = some ⟨oc25, od25, .func (PySem.W.fnOf "is_integer" "is_integer" (defArgs s_is_integer) (defBody s_is_integer) (defScope s_is_integer) .none kV25 dc25 pm25 an25 cd25 ct25), sl25⟩)
    (a25_2 : PySem.W.codeIn K cd25 "is_integer" = true)
    (a25_3 : PySem.W.keepIn K (.ref f25) = true)
    (a26_0 : PySem.W.nsIn K mainGlobals "steps_in" = some (some (.ref f26)))
    (a26_1 : K.lookup f26 = some ⟨oc26, od26, .func (PySem.W.fnOf "steps_in" "steps_in" (defArgs s_steps_in) (defBody s_steps_in) (defScope s_steps_in) .none kV26 dc26 pm26 an26 cd26 ct26), sl26⟩)
    (a26_2 : PySem.W.codeIn K cd26 "steps_in" = true)
    (a26_3 : PySem.W.keepIn K (.ref f26) = true)
    (a27_0 : PySem.W.nsIn K mainGlobals "first_invalid" = some (some (.ref f27)))
    (a27_1 : K.lookup f27 = some ⟨oc27, od27, .func (PySem.W.fnOf "first_invalid" "first_invalid" (defArgs s_first_invalid) (defBody s_first_invalid) (defScope s_first_invalid) .none kV27 dc27 pm27 an27 cd27 ct27), sl27⟩)
    (a27_2 : PySem.W.codeIn K cd27 "first_invalid" = true)
    (a27_3 : PySem.W.keepIn K (.ref f27) = true)
    (a28_0 : PySem.W.nsIn K mainGlobals "is_program" = some (some (.ref f28)))
    (a28_1 : K.lookup f28 = some ⟨oc28, od28, .func (PySem.W.fnOf "is_program" "is_program" (defArgs s_is_program) (defBody s_is_program) (defScope s_is_program) .none kV28 dc28 pm28 an28 cd28 ct28), sl28⟩)
    (a28_2 : PySem.W.codeIn K cd28 "is_program" = true)
    (a28_3 : PySem.W.keepIn K (.ref f28) = true)
    (a29_0 : PySem.W.nsIn K mainGlobals "_law_told_right" = some (some (.ref f29)))
    (a29_1 : K.lookup f29 = some ⟨oc29, od29, .func (PySem.W.fnOf "_law_told_right" "_law_told_right" (defArgs s__law_told_right) (defBody s__law_told_right) (defScope s__law_told_right) .none kV29 dc29 pm29 an29 cd29 ct29), sl29⟩)
    (a29_2 : PySem.W.codeIn K cd29 "_law_told_right" = true)
    (a29_3 : PySem.W.keepIn K (.ref f29) = true)
    (a30_0 : PySem.W.nsIn K mainGlobals "_law_whole" = some (some (.ref f30)))
    (a30_1 : K.lookup f30 = some ⟨oc30, od30, .func (PySem.W.fnOf "_law_whole" "_law_whole" (defArgs s__law_whole) (defBody s__law_whole) (defScope s__law_whole) .none kV30 dc30 pm30 an30 cd30 ct30), sl30⟩)
    (a30_2 : PySem.W.codeIn K cd30 "_law_whole" = true)
    (a30_3 : PySem.W.keepIn K (.ref f30) = true)
    (a31_0 : PySem.W.nsIn K mainGlobals "_law_counted" = some (some (.ref f31)))
    (a31_1 : K.lookup f31 = some ⟨oc31, od31, .func (PySem.W.fnOf "_law_counted" "_law_counted" (defArgs s__law_counted) (defBody s__law_counted) (defScope s__law_counted) .none kV31 dc31 pm31 an31 cd31 ct31), sl31⟩)
    (a31_2 : PySem.W.codeIn K cd31 "_law_counted" = true)
    (a31_3 : PySem.W.keepIn K (.ref f31) = true)
    (a32_0 : PySem.W.nsIn K mainGlobals "_law_first_bad" = some (some (.ref f32)))
    (a32_1 : K.lookup f32 = some ⟨oc32, od32, .func (PySem.W.fnOf "_law_first_bad" "_law_first_bad" (defArgs s__law_first_bad) (defBody s__law_first_bad) (defScope s__law_first_bad) .none kV32 dc32 pm32 an32 cd32 ct32), sl32⟩)
    (a32_2 : PySem.W.codeIn K cd32 "_law_first_bad" = true)
    (a32_3 : PySem.W.keepIn K (.ref f32) = true)
    (a33_0 : PySem.W.nsIn K mainGlobals "_law_draw" = some (some (.ref f33)))
    (a33_1 : K.lookup f33 = some ⟨oc33, od33, .func (PySem.W.fnOf "_law_draw" "_law_draw" (defArgs s__law_draw) (defBody s__law_draw) (defScope s__law_draw) .none kV33 dc33 pm33 an33 cd33 ct33), sl33⟩)
    (a33_2 : PySem.W.codeIn K cd33 "_law_draw" = true)
    (a33_3 : PySem.W.keepIn K (.ref f33) = true)
    (a34_0 : PySem.W.nsIn K mainGlobals "_law_times" = some (some (.ref f34)))
    (a34_1 : K.lookup f34 = some ⟨oc34, od34, .func (PySem.W.fnOf "_law_times" "_law_times" (defArgs s__law_times) (defBody s__law_times) (defScope s__law_times) .none kV34 dc34 pm34 an34 cd34 ct34), sl34⟩)
    (a34_2 : PySem.W.codeIn K cd34 "_law_times" = true)
    (a34_3 : PySem.W.keepIn K (.ref f34) = true)
    (a35_0 : PySem.W.nsIn K mainGlobals "_law_word" = some (some (.ref f35)))
    (a35_1 : K.lookup f35 = some ⟨oc35, od35, .func (PySem.W.fnOf "_law_word" "_law_word" (defArgs s__law_word) (defBody s__law_word) (defScope s__law_word) .none kV35 dc35 pm35 an35 cd35 ct35), sl35⟩)
    (a35_2 : PySem.W.codeIn K cd35 "_law_word" = true)
    (a35_3 : PySem.W.keepIn K (.ref f35) = true)
    (a36_0 : PySem.W.nsIn K mainGlobals "_law_steps" = some (some (.ref f36)))
    (a36_1 : K.lookup f36 = some ⟨oc36, od36, .func (PySem.W.fnOf "_law_steps" "_law_steps" (defArgs s__law_steps) (defBody s__law_steps) (defScope s__law_steps) .none kV36 dc36 pm36 an36 cd36 ct36), sl36⟩)
    (a36_2 : PySem.W.codeIn K cd36 "_law_steps" = true)
    (a36_3 : PySem.W.keepIn K (.ref f36) = true)
    (a37_0 : PySem.W.nsIn K mainGlobals "_law_program" = some (some (.ref f37)))
    (a37_1 : K.lookup f37 = some ⟨oc37, od37, .func (PySem.W.fnOf "_law_program" "_law_program" (defArgs s__law_program) (defBody s__law_program) (defScope s__law_program) .none kV37 dc37 pm37 an37 cd37 ct37), sl37⟩)
    (a37_2 : PySem.W.codeIn K cd37 "_law_program" = true)
    (a37_3 : PySem.W.keepIn K (.ref f37) = true)
    (a38_0 : PySem.W.nsIn K mainGlobals "_law_bent" = some (some (.ref f38)))
    (a38_1 : K.lookup f38 = some ⟨oc38, od38, .func (PySem.W.fnOf "_law_bent" "_law_bent" (defArgs s__law_bent) (defBody s__law_bent) (defScope s__law_bent) .none kV38 dc38 pm38 an38 cd38 ct38), sl38⟩)
    (a38_2 : PySem.W.codeIn K cd38 "_law_bent" = true)
    (a38_3 : PySem.W.keepIn K (.ref f38) = true)
    (a39_0 : PySem.W.nsIn K mainGlobals "_law_right" = some (some (.ref f39)))
    (a39_1 : K.lookup f39 = some ⟨oc39, od39, .func (PySem.W.fnOf "_law_right" "_law_right" (defArgs s__law_right) (defBody s__law_right) (defScope s__law_right) .none kV39 dc39 pm39 an39 cd39 ct39), sl39⟩)
    (a39_2 : PySem.W.codeIn K cd39 "_law_right" = true)
    (a39_3 : PySem.W.keepIn K (.ref f39) = true)
    (a40_0 : PySem.W.nsIn K mainGlobals "_law_pool" = some (some (.ref f40)))
    (a40_1 : K.lookup f40 = some ⟨oc40, od40, .func (PySem.W.fnOf "_law_pool" "_law_pool" (defArgs s__law_pool) (defBody s__law_pool) (defScope s__law_pool) .none kV40 dc40 pm40 an40 cd40 ct40), sl40⟩)
    (a40_2 : PySem.W.codeIn K cd40 "_law_pool" = true)
    (a40_3 : PySem.W.keepIn K (.ref f40) = true)
    (a41_0 : PySem.W.nsIn K mainGlobals "_law_cell" = some (some (.ref f41)))
    (a41_1 : K.lookup f41 = some ⟨oc41, od41, .func (PySem.W.fnOf "_law_cell" "_law_cell" (defArgs s__law_cell) (defBody s__law_cell) (defScope s__law_cell) .none kV41 dc41 pm41 an41 cd41 ct41), sl41⟩)
    (a41_2 : PySem.W.codeIn K cd41 "_law_cell" = true)
    (a41_3 : PySem.W.keepIn K (.ref f41) = true)
    (a42_0 : PySem.W.nsIn K mainGlobals "law" = some (some (.ref f42)))
    (a42_1 : K.lookup f42 = some ⟨oc42, od42, .func (PySem.W.fnOf "law" "law" (defArgs s_law) (defBody s_law) (defScope s_law) .none kV42 dc42 pm42 an42 cd42 ct42), sl42⟩)
    (a42_2 : PySem.W.codeIn K cd42 "law" = true)
    (a42_3 : PySem.W.keepIn K (.ref f42) = true) : Top K mg where
  c_KINDS := strtup_mk X G a0_0 a0_1 (.cons ⟨_, rfl⟩ (.cons ⟨_, rfl⟩ .nil)) (line_of (show 2 ≤ 16777216 by decide))
  c_MOST_LETTERS := int_mk X G a1_0
  c_MOST_NESTED := int_mk X G a2_0
  c_MOST_STEPS := int_mk X G a3_0
  c_MOST_TIMES := int_mk X G a4_0
  c_REPEAT := str_mk X G a5_0
  z_abs := PySem.W.mg_none_of X G a6_0
  z_all := PySem.W.mg_none_of X G a7_0
  z_bool := PySem.W.mg_none_of X G a8_0
  z_divmod := PySem.W.mg_none_of X G a9_0
  z_enumerate := PySem.W.mg_none_of X G a10_0
  z_int := PySem.W.mg_none_of X G a11_0
  z_isinstance := PySem.W.mg_none_of X G a12_0
  z_len := PySem.W.mg_none_of X G a13_0
  z_list := PySem.W.mg_none_of X G a14_0
  z_max := PySem.W.mg_none_of X G a15_0
  z_min := PySem.W.mg_none_of X G a16_0
  z_range := PySem.W.mg_none_of X G a17_0
  z_repr := PySem.W.mg_none_of X G a18_0
  z_str := PySem.W.mg_none_of X G a19_0
  z_sum := PySem.W.mg_none_of X G a20_0
  z_tuple := PySem.W.mg_none_of X G a21_0
  z_zip := PySem.W.mg_none_of X G a22_0
  d__law_at_limits := defA_mk X G a23_0 a23_1 a23_2 a23_3
  d_is_word := defA_mk X G a24_0 a24_1 a24_2 a24_3
  d_is_integer := defA_mk X G a25_0 a25_1 a25_2 a25_3
  d_steps_in := defA_mk X G a26_0 a26_1 a26_2 a26_3
  d_first_invalid := defA_mk X G a27_0 a27_1 a27_2 a27_3
  d_is_program := defA_mk X G a28_0 a28_1 a28_2 a28_3
  d__law_told_right := defA_mk X G a29_0 a29_1 a29_2 a29_3
  d__law_whole := defA_mk X G a30_0 a30_1 a30_2 a30_3
  d__law_counted := defA_mk X G a31_0 a31_1 a31_2 a31_3
  d__law_first_bad := defA_mk X G a32_0 a32_1 a32_2 a32_3
  d__law_draw := defA_mk X G a33_0 a33_1 a33_2 a33_3
  d__law_times := defA_mk X G a34_0 a34_1 a34_2 a34_3
  d__law_word := defA_mk X G a35_0 a35_1 a35_2 a35_3
  d__law_steps := defA_mk X G a36_0 a36_1 a36_2 a36_3
  d__law_program := defA_mk X G a37_0 a37_1 a37_2 a37_3
  d__law_bent := defA_mk X G a38_0 a38_1 a38_2 a38_3
  d__law_right := defA_mk X G a39_0 a39_1 a39_2 a39_3
  d__law_pool := defA_mk X G a40_0 a40_1 a40_2 a40_3
  d__law_cell := defA_mk X G a41_0 a41_1 a41_2 a41_3
  d_law := defA_mk X G a42_0 a42_1 a42_2 a42_3
theorem all_mk {P : Program} {w : World} {K : PySem.W.Frag} {h : Heap} {mg : Str → Option Value} {fa : Addr} (X : K.In h) (G : h.Ns mainGlobals mg) (hfa : mg "law" = some (.ref fa))
    {k0 : Addr} {n0 : Nat} {kl0 : Array (Option Value)} {u0_0 u0_1 : Tok}
    {t1 : Tok}
    {t2 : Tok}
    {t3 : Tok}
    {t4 : Tok}
    {t5 : Tok}
    {f23 : Addr} {oc23 kV23 dc23 pm23 cd23 ct23 : Value} {od23 an23 : Option Addr} {sl23 : Array (Option Value)}
    {f24 : Addr} {oc24 kV24 dc24 pm24 cd24 ct24 : Value} {od24 an24 : Option Addr} {sl24 : Array (Option Value)}
    {f25 : Addr} {oc25 kV25 dc25 pm25 cd25 ct25 : Value} {od25 an25 : Option Addr} {sl25 : Array (Option Value)}
    {f26 : Addr} {oc26 kV26 dc26 pm26 cd26 ct26 : Value} {od26 an26 : Option Addr} {sl26 : Array (Option Value)}
    {f27 : Addr} {oc27 kV27 dc27 pm27 cd27 ct27 : Value} {od27 an27 : Option Addr} {sl27 : Array (Option Value)}
    {f28 : Addr} {oc28 kV28 dc28 pm28 cd28 ct28 : Value} {od28 an28 : Option Addr} {sl28 : Array (Option Value)}
    {f29 : Addr} {oc29 kV29 dc29 pm29 cd29 ct29 : Value} {od29 an29 : Option Addr} {sl29 : Array (Option Value)}
    {f30 : Addr} {oc30 kV30 dc30 pm30 cd30 ct30 : Value} {od30 an30 : Option Addr} {sl30 : Array (Option Value)}
    {f31 : Addr} {oc31 kV31 dc31 pm31 cd31 ct31 : Value} {od31 an31 : Option Addr} {sl31 : Array (Option Value)}
    {f32 : Addr} {oc32 kV32 dc32 pm32 cd32 ct32 : Value} {od32 an32 : Option Addr} {sl32 : Array (Option Value)}
    {f33 : Addr} {oc33 kV33 dc33 pm33 cd33 ct33 : Value} {od33 an33 : Option Addr} {sl33 : Array (Option Value)}
    {f34 : Addr} {oc34 kV34 dc34 pm34 cd34 ct34 : Value} {od34 an34 : Option Addr} {sl34 : Array (Option Value)}
    {f35 : Addr} {oc35 kV35 dc35 pm35 cd35 ct35 : Value} {od35 an35 : Option Addr} {sl35 : Array (Option Value)}
    {f36 : Addr} {oc36 kV36 dc36 pm36 cd36 ct36 : Value} {od36 an36 : Option Addr} {sl36 : Array (Option Value)}
    {f37 : Addr} {oc37 kV37 dc37 pm37 cd37 ct37 : Value} {od37 an37 : Option Addr} {sl37 : Array (Option Value)}
    {f38 : Addr} {oc38 kV38 dc38 pm38 cd38 ct38 : Value} {od38 an38 : Option Addr} {sl38 : Array (Option Value)}
    {f39 : Addr} {oc39 kV39 dc39 pm39 cd39 ct39 : Value} {od39 an39 : Option Addr} {sl39 : Array (Option Value)}
    {f40 : Addr} {oc40 kV40 dc40 pm40 cd40 ct40 : Value} {od40 an40 : Option Addr} {sl40 : Array (Option Value)}
    {f41 : Addr} {oc41 kV41 dc41 pm41 cd41 ct41 : Value} {od41 an41 : Option Addr} {sl41 : Array (Option Value)}
    {f42 : Addr} {oc42 kV42 dc42 pm42 cd42 ct42 : Value} {od42 an42 : Option Addr} {sl42 : Array (Option Value)}
    (a0_0 : PySem.W.nsIn K mainGlobals "KINDS" = some (some (.ref k0)))
    (a0_1 : K.lookup k0 = some ⟨.type "tuple", none, .seq #[.str ⟨[82].toArray⟩ u0_0, .str ⟨[67].toArray⟩ u0_1] n0, kl0⟩)
    (a1_0 : PySem.W.nsIn K mainGlobals "MOST_LETTERS" = some (some (.int 400 t1)))
    (a2_0 : PySem.W.nsIn K mainGlobals "MOST_NESTED" = some (some (.int 5 t2)))
    (a3_0 : PySem.W.nsIn K mainGlobals "MOST_STEPS" = some (some (.int 60 t3)))
    (a4_0 : PySem.W.nsIn K mainGlobals "MOST_TIMES" = some (some (.int 1000000000000000000000000000000 t4)))
    (a5_0 : PySem.W.nsIn K mainGlobals "REPEAT" = some (some (.str ⟨[114, 101, 112, 101, 97, 116].toArray⟩ t5)))
    (a6_0 : PySem.W.nsIn K mainGlobals "abs" = some none)
    (a7_0 : PySem.W.nsIn K mainGlobals "all" = some none)
    (a8_0 : PySem.W.nsIn K mainGlobals "bool" = some none)
    (a9_0 : PySem.W.nsIn K mainGlobals "divmod" = some none)
    (a10_0 : PySem.W.nsIn K mainGlobals "enumerate" = some none)
    (a11_0 : PySem.W.nsIn K mainGlobals "int" = some none)
    (a12_0 : PySem.W.nsIn K mainGlobals "isinstance" = some none)
    (a13_0 : PySem.W.nsIn K mainGlobals "len" = some none)
    (a14_0 : PySem.W.nsIn K mainGlobals "list" = some none)
    (a15_0 : PySem.W.nsIn K mainGlobals "max" = some none)
    (a16_0 : PySem.W.nsIn K mainGlobals "min" = some none)
    (a17_0 : PySem.W.nsIn K mainGlobals "range" = some none)
    (a18_0 : PySem.W.nsIn K mainGlobals "repr" = some none)
    (a19_0 : PySem.W.nsIn K mainGlobals "str" = some none)
    (a20_0 : PySem.W.nsIn K mainGlobals "sum" = some none)
    (a21_0 : PySem.W.nsIn K mainGlobals "tuple" = some none)
    (a22_0 : PySem.W.nsIn K mainGlobals "zip" = some none)
    (a23_0 : PySem.W.nsIn K mainGlobals "_law_at_limits" = some (some (.ref f23)))
    (a23_1 : K.lookup f23 = some ⟨oc23, od23, .func (PySem.W.fnOf "_law_at_limits" "_law_at_limits" (defArgs s__law_at_limits) (defBody s__law_at_limits) (defScope s__law_at_limits) .none kV23 dc23 pm23 an23 cd23 ct23), sl23⟩)
    (a23_2 : PySem.W.codeIn K cd23 "_law_at_limits" = true)
    (a23_3 : PySem.W.keepIn K (.ref f23) = true)
    (a24_0 : PySem.W.nsIn K mainGlobals "is_word" = some (some (.ref f24)))
    (a24_1 : K.lookup f24 = some ⟨oc24, od24, .func (PySem.W.fnOf "is_word" "is_word" (defArgs s_is_word) (defBody s_is_word) (defScope s_is_word) .none kV24 dc24 pm24 an24 cd24 ct24), sl24⟩)
    (a24_2 : PySem.W.codeIn K cd24 "is_word" = true)
    (a24_3 : PySem.W.keepIn K (.ref f24) = true)
    (a25_0 : PySem.W.nsIn K mainGlobals "is_integer" = some (some (.ref f25)))
    (a25_1 : K.lookup f25 = some ⟨oc25, od25, .func (PySem.W.fnOf "is_integer" "is_integer" (defArgs s_is_integer) (defBody s_is_integer) (defScope s_is_integer) .none kV25 dc25 pm25 an25 cd25 ct25), sl25⟩)
    (a25_2 : PySem.W.codeIn K cd25 "is_integer" = true)
    (a25_3 : PySem.W.keepIn K (.ref f25) = true)
    (a26_0 : PySem.W.nsIn K mainGlobals "steps_in" = some (some (.ref f26)))
    (a26_1 : K.lookup f26 = some ⟨oc26, od26, .func (PySem.W.fnOf "steps_in" "steps_in" (defArgs s_steps_in) (defBody s_steps_in) (defScope s_steps_in) .none kV26 dc26 pm26 an26 cd26 ct26), sl26⟩)
    (a26_2 : PySem.W.codeIn K cd26 "steps_in" = true)
    (a26_3 : PySem.W.keepIn K (.ref f26) = true)
    (a27_0 : PySem.W.nsIn K mainGlobals "first_invalid" = some (some (.ref f27)))
    (a27_1 : K.lookup f27 = some ⟨oc27, od27, .func (PySem.W.fnOf "first_invalid" "first_invalid" (defArgs s_first_invalid) (defBody s_first_invalid) (defScope s_first_invalid) .none kV27 dc27 pm27 an27 cd27 ct27), sl27⟩)
    (a27_2 : PySem.W.codeIn K cd27 "first_invalid" = true)
    (a27_3 : PySem.W.keepIn K (.ref f27) = true)
    (a28_0 : PySem.W.nsIn K mainGlobals "is_program" = some (some (.ref f28)))
    (a28_1 : K.lookup f28 = some ⟨oc28, od28, .func (PySem.W.fnOf "is_program" "is_program" (defArgs s_is_program) (defBody s_is_program) (defScope s_is_program) .none kV28 dc28 pm28 an28 cd28 ct28), sl28⟩)
    (a28_2 : PySem.W.codeIn K cd28 "is_program" = true)
    (a28_3 : PySem.W.keepIn K (.ref f28) = true)
    (a29_0 : PySem.W.nsIn K mainGlobals "_law_told_right" = some (some (.ref f29)))
    (a29_1 : K.lookup f29 = some ⟨oc29, od29, .func (PySem.W.fnOf "_law_told_right" "_law_told_right" (defArgs s__law_told_right) (defBody s__law_told_right) (defScope s__law_told_right) .none kV29 dc29 pm29 an29 cd29 ct29), sl29⟩)
    (a29_2 : PySem.W.codeIn K cd29 "_law_told_right" = true)
    (a29_3 : PySem.W.keepIn K (.ref f29) = true)
    (a30_0 : PySem.W.nsIn K mainGlobals "_law_whole" = some (some (.ref f30)))
    (a30_1 : K.lookup f30 = some ⟨oc30, od30, .func (PySem.W.fnOf "_law_whole" "_law_whole" (defArgs s__law_whole) (defBody s__law_whole) (defScope s__law_whole) .none kV30 dc30 pm30 an30 cd30 ct30), sl30⟩)
    (a30_2 : PySem.W.codeIn K cd30 "_law_whole" = true)
    (a30_3 : PySem.W.keepIn K (.ref f30) = true)
    (a31_0 : PySem.W.nsIn K mainGlobals "_law_counted" = some (some (.ref f31)))
    (a31_1 : K.lookup f31 = some ⟨oc31, od31, .func (PySem.W.fnOf "_law_counted" "_law_counted" (defArgs s__law_counted) (defBody s__law_counted) (defScope s__law_counted) .none kV31 dc31 pm31 an31 cd31 ct31), sl31⟩)
    (a31_2 : PySem.W.codeIn K cd31 "_law_counted" = true)
    (a31_3 : PySem.W.keepIn K (.ref f31) = true)
    (a32_0 : PySem.W.nsIn K mainGlobals "_law_first_bad" = some (some (.ref f32)))
    (a32_1 : K.lookup f32 = some ⟨oc32, od32, .func (PySem.W.fnOf "_law_first_bad" "_law_first_bad" (defArgs s__law_first_bad) (defBody s__law_first_bad) (defScope s__law_first_bad) .none kV32 dc32 pm32 an32 cd32 ct32), sl32⟩)
    (a32_2 : PySem.W.codeIn K cd32 "_law_first_bad" = true)
    (a32_3 : PySem.W.keepIn K (.ref f32) = true)
    (a33_0 : PySem.W.nsIn K mainGlobals "_law_draw" = some (some (.ref f33)))
    (a33_1 : K.lookup f33 = some ⟨oc33, od33, .func (PySem.W.fnOf "_law_draw" "_law_draw" (defArgs s__law_draw) (defBody s__law_draw) (defScope s__law_draw) .none kV33 dc33 pm33 an33 cd33 ct33), sl33⟩)
    (a33_2 : PySem.W.codeIn K cd33 "_law_draw" = true)
    (a33_3 : PySem.W.keepIn K (.ref f33) = true)
    (a34_0 : PySem.W.nsIn K mainGlobals "_law_times" = some (some (.ref f34)))
    (a34_1 : K.lookup f34 = some ⟨oc34, od34, .func (PySem.W.fnOf "_law_times" "_law_times" (defArgs s__law_times) (defBody s__law_times) (defScope s__law_times) .none kV34 dc34 pm34 an34 cd34 ct34), sl34⟩)
    (a34_2 : PySem.W.codeIn K cd34 "_law_times" = true)
    (a34_3 : PySem.W.keepIn K (.ref f34) = true)
    (a35_0 : PySem.W.nsIn K mainGlobals "_law_word" = some (some (.ref f35)))
    (a35_1 : K.lookup f35 = some ⟨oc35, od35, .func (PySem.W.fnOf "_law_word" "_law_word" (defArgs s__law_word) (defBody s__law_word) (defScope s__law_word) .none kV35 dc35 pm35 an35 cd35 ct35), sl35⟩)
    (a35_2 : PySem.W.codeIn K cd35 "_law_word" = true)
    (a35_3 : PySem.W.keepIn K (.ref f35) = true)
    (a36_0 : PySem.W.nsIn K mainGlobals "_law_steps" = some (some (.ref f36)))
    (a36_1 : K.lookup f36 = some ⟨oc36, od36, .func (PySem.W.fnOf "_law_steps" "_law_steps" (defArgs s__law_steps) (defBody s__law_steps) (defScope s__law_steps) .none kV36 dc36 pm36 an36 cd36 ct36), sl36⟩)
    (a36_2 : PySem.W.codeIn K cd36 "_law_steps" = true)
    (a36_3 : PySem.W.keepIn K (.ref f36) = true)
    (a37_0 : PySem.W.nsIn K mainGlobals "_law_program" = some (some (.ref f37)))
    (a37_1 : K.lookup f37 = some ⟨oc37, od37, .func (PySem.W.fnOf "_law_program" "_law_program" (defArgs s__law_program) (defBody s__law_program) (defScope s__law_program) .none kV37 dc37 pm37 an37 cd37 ct37), sl37⟩)
    (a37_2 : PySem.W.codeIn K cd37 "_law_program" = true)
    (a37_3 : PySem.W.keepIn K (.ref f37) = true)
    (a38_0 : PySem.W.nsIn K mainGlobals "_law_bent" = some (some (.ref f38)))
    (a38_1 : K.lookup f38 = some ⟨oc38, od38, .func (PySem.W.fnOf "_law_bent" "_law_bent" (defArgs s__law_bent) (defBody s__law_bent) (defScope s__law_bent) .none kV38 dc38 pm38 an38 cd38 ct38), sl38⟩)
    (a38_2 : PySem.W.codeIn K cd38 "_law_bent" = true)
    (a38_3 : PySem.W.keepIn K (.ref f38) = true)
    (a39_0 : PySem.W.nsIn K mainGlobals "_law_right" = some (some (.ref f39)))
    (a39_1 : K.lookup f39 = some ⟨oc39, od39, .func (PySem.W.fnOf "_law_right" "_law_right" (defArgs s__law_right) (defBody s__law_right) (defScope s__law_right) .none kV39 dc39 pm39 an39 cd39 ct39), sl39⟩)
    (a39_2 : PySem.W.codeIn K cd39 "_law_right" = true)
    (a39_3 : PySem.W.keepIn K (.ref f39) = true)
    (a40_0 : PySem.W.nsIn K mainGlobals "_law_pool" = some (some (.ref f40)))
    (a40_1 : K.lookup f40 = some ⟨oc40, od40, .func (PySem.W.fnOf "_law_pool" "_law_pool" (defArgs s__law_pool) (defBody s__law_pool) (defScope s__law_pool) .none kV40 dc40 pm40 an40 cd40 ct40), sl40⟩)
    (a40_2 : PySem.W.codeIn K cd40 "_law_pool" = true)
    (a40_3 : PySem.W.keepIn K (.ref f40) = true)
    (a41_0 : PySem.W.nsIn K mainGlobals "_law_cell" = some (some (.ref f41)))
    (a41_1 : K.lookup f41 = some ⟨oc41, od41, .func (PySem.W.fnOf "_law_cell" "_law_cell" (defArgs s__law_cell) (defBody s__law_cell) (defScope s__law_cell) .none kV41 dc41 pm41 an41 cd41 ct41), sl41⟩)
    (a41_2 : PySem.W.codeIn K cd41 "_law_cell" = true)
    (a41_3 : PySem.W.keepIn K (.ref f41) = true)
    (a42_0 : PySem.W.nsIn K mainGlobals "law" = some (some (.ref f42)))
    (a42_1 : K.lookup f42 = some ⟨oc42, od42, .func (PySem.W.fnOf "law" "law" (defArgs s_law) (defBody s_law) (defScope s_law) .none kV42 dc42 pm42 an42 cd42 ct42), sl42⟩)
    (a42_2 : PySem.W.codeIn K cd42 "law" = true)
    (a42_3 : PySem.W.keepIn K (.ref f42) = true) :
    ∃ fd : FuncData, (∀ (s : Shared) (v : Value), BindsTo s fd ⟨[v], []⟩ [("_law_script", v)]) ∧ ∀ base : Heap, K.In base → base.Ns mainGlobals mg → FnG P w K mg base (L2.CX P w) 28 fa fd ["_law_script"] (spL K) :=
  law_end hfa (fun base => all_has (top_mk X G a0_0 a0_1 a1_0 a2_0 a3_0 a4_0 a5_0 a6_0 a7_0 a8_0 a9_0 a10_0 a11_0 a12_0 a13_0 a14_0 a15_0 a16_0 a17_0 a18_0 a19_0 a20_0 a21_0 a22_0 a23_0 a23_1 a23_2 a23_3 a24_0 a24_1 a24_2 a24_3 a25_0 a25_1 a25_2 a25_3 a26_0 a26_1 a26_2 a26_3 a27_0 a27_1 a27_2 a27_3 a28_0 a28_1 a28_2 a28_3 a29_0 a29_1 a29_2 a29_3 a30_0 a30_1 a30_2 a30_3 a31_0 a31_1 a31_2 a31_3 a32_0 a32_1 a32_2 a32_3 a33_0 a33_1 a33_2 a33_3 a34_0 a34_1 a34_2 a34_3 a35_0 a35_1 a35_2 a35_3 a36_0 a36_1 a36_2 a36_3 a37_0 a37_1 a37_2 a37_3 a38_0 a38_1 a38_2 a38_3 a39_0 a39_1 a39_2 a39_3 a40_0 a40_1 a40_2 a40_3 a41_0 a41_1 a41_2 a41_3 a42_0 a42_1 a42_2 a42_3) base) good (fun _ _ _ _ _ _ _ _ => rfl)
end KP
open PySem PySem.W PyProof.Rows
set_option maxHeartbeats 0 in
theorem PySem.Challenge.cw_keepsort_k19_programs_and_others_holds : PySem.Challenge.rw_keepsort_k19_programs_and_others.Holds := by
  w_on; o_law; k_head; (case hw => w_witness2)
  k_fill
  refine KP.walk_ofG (l := PySem.Challenge.rw_keepsort_k19_programs_and_others) (n := 63) (k := 28) (x := "_law_script") (CX := fun w => L2.CX (PySem.Challenge.rw_keepsort_k19_programs_and_others).prog w) (sp := fun w => KP.spL _) rfl (by decide) rfl ⟨rfl, by decide, by decide⟩ (fun w h Y => PySem.W.kIn_of Y) ?F (fun _ H a ns hl hO hS => ⟨a, ns, rfl, hl, hO, hS, fun _ => rfl⟩) (fun _ _ _ _ _ h => KP.cx_false h)
  case F =>
    intro w mg fa h KX G hmg
    refine' KP.all_mk KX G hmg ?a0_0 ?a0_1 ?a1_0 ?a2_0 ?a3_0 ?a4_0 ?a5_0 ?a6_0 ?a7_0 ?a8_0 ?a9_0 ?a10_0 ?a11_0 ?a12_0 ?a13_0 ?a14_0 ?a15_0 ?a16_0 ?a17_0 ?a18_0 ?a19_0 ?a20_0 ?a21_0 ?a22_0 ?a23_0 ?a23_1 ?a23_2 ?a23_3 ?a24_0 ?a24_1 ?a24_2 ?a24_3 ?a25_0 ?a25_1 ?a25_2 ?a25_3 ?a26_0 ?a26_1 ?a26_2 ?a26_3 ?a27_0 ?a27_1 ?a27_2 ?a27_3 ?a28_0 ?a28_1 ?a28_2 ?a28_3 ?a29_0 ?a29_1 ?a29_2 ?a29_3 ?a30_0 ?a30_1 ?a30_2 ?a30_3 ?a31_0 ?a31_1 ?a31_2 ?a31_3 ?a32_0 ?a32_1 ?a32_2 ?a32_3 ?a33_0 ?a33_1 ?a33_2 ?a33_3 ?a34_0 ?a34_1 ?a34_2 ?a34_3 ?a35_0 ?a35_1 ?a35_2 ?a35_3 ?a36_0 ?a36_1 ?a36_2 ?a36_3 ?a37_0 ?a37_1 ?a37_2 ?a37_3 ?a38_0 ?a38_1 ?a38_2 ?a38_3 ?a39_0 ?a39_1 ?a39_2 ?a39_3 ?a40_0 ?a40_1 ?a40_2 ?a40_3 ?a41_0 ?a41_1 ?a41_2 ?a41_3 ?a42_0 ?a42_1 ?a42_2 ?a42_3
    (case a0_0 => k_is); (case a0_1 => k_is); (case a1_0 => k_is); (case a2_0 => k_is); (case a3_0 => k_is); (case a4_0 => k_is); (case a5_0 => k_is); (case a6_0 => k_is); (case a7_0 => k_is); (case a8_0 => k_is); (case a9_0 => k_is); (case a10_0 => k_is); (case a11_0 => k_is); (case a12_0 => k_is); (case a13_0 => k_is); (case a14_0 => k_is); (case a15_0 => k_is); (case a16_0 => k_is); (case a17_0 => k_is); (case a18_0 => k_is); (case a19_0 => k_is); (case a20_0 => k_is); (case a21_0 => k_is); (case a22_0 => k_is); (case a23_0 => k_is); (case a23_1 => k_is); (case a23_2 => k_is); (case a23_3 => k_is); (case a24_0 => k_is); (case a24_1 => k_is); (case a24_2 => k_is); (case a24_3 => k_is); (case a25_0 => k_is); (case a25_1 => k_is); (case a25_2 => k_is); (case a25_3 => k_is); (case a26_0 => k_is); (case a26_1 => k_is); (case a26_2 => k_is); (case a26_3 => k_is); (case a27_0 => k_is); (case a27_1 => k_is); (case a27_2 => k_is); (case a27_3 => k_is); (case a28_0 => k_is); (case a28_1 => k_is); (case a28_2 => k_is); (case a28_3 => k_is); (case a29_0 => k_is); (case a29_1 => k_is); (case a29_2 => k_is); (case a29_3 => k_is); (case a30_0 => k_is); (case a30_1 => k_is); (case a30_2 => k_is); (case a30_3 => k_is); (case a31_0 => k_is); (case a31_1 => k_is); (case a31_2 => k_is); (case a31_3 => k_is); (case a32_0 => k_is); (case a32_1 => k_is); (case a32_2 => k_is); (case a32_3 => k_is); (case a33_0 => k_is); (case a33_1 => k_is); (case a33_2 => k_is); (case a33_3 => k_is); (case a34_0 => k_is); (case a34_1 => k_is); (case a34_2 => k_is); (case a34_3 => k_is); (case a35_0 => k_is); (case a35_1 => k_is); (case a35_2 => k_is); (case a35_3 => k_is); (case a36_0 => k_is); (case a36_1 => k_is); (case a36_2 => k_is); (case a36_3 => k_is); (case a37_0 => k_is); (case a37_1 => k_is); (case a37_2 => k_is); (case a37_3 => k_is); (case a38_0 => k_is); (case a38_1 => k_is); (case a38_2 => k_is); (case a38_3 => k_is); (case a39_0 => k_is); (case a39_1 => k_is); (case a39_2 => k_is); (case a39_3 => k_is); (case a40_0 => k_is); (case a40_1 => k_is); (case a40_2 => k_is); (case a40_3 => k_is); (case a41_0 => k_is); (case a41_1 => k_is); (case a41_2 => k_is); (case a41_3 => k_is); (case a42_0 => k_is); (case a42_1 => k_is); (case a42_2 => k_is); (case a42_3 => k_is)
