import PyProof.Rows.All
import Wide.All
import OpenK.AllK
import Wide.FinOn
import HandS.ForMost
import HandS.Defaults
import HandS.IsInst
import HandS.WideBits
import HandS.Deep
import HandS.Flow
import HandS.Style
import HandS.FStr
import HandS.RaiseMore
import HandS.TupAny
import HandS.HeadHook2
import HandS.HeadEnd
import HandS.Head0
import HandS.Head1
import HandS.Head2
import HandS.Walk
import HandS.Text
import HandS.Dict
import KE.KxText
import PySem.Challenge.RW_foreguess_k11_names_and_events
set_option Elab.async false
set_option linter.all false
set_option maxRecDepth 100000
set_option maxHeartbeats 4000000
/-! Fga: data over the abstract heap, what stays, guarded defs, repr, == and in of data. -/
namespace Fg
open PySem PySem.Spec PyProof.Rows L2

/-! ### what stays -/
def hid (S : List Addr) (H : Hp) : Hp := fun a => if a ∈ S then none else H a
theorem hid_some {S : List Addr} {H : Hp} {a : Addr} {o : HO} (h : hid S H a = some o) : a ∉ S ∧ H a = some o := by
  unfold hid at h
  by_cases m : a ∈ S
  · rw [if_pos m] at h
    cases h
  · rw [if_neg m] at h
    exact ⟨m, h⟩
theorem hid_at {S : List Addr} {H : Hp} {a : Addr} {o : HO} (m : a ∉ S) (h : H a = some o) : hid S H a = some o := by
  unfold hid
  rw [if_neg m]
  exact h
theorem hid_nil {H : Hp} : hid [] H = H := by
  funext a
  unfold hid
  rw [if_neg List.not_mem_nil]
theorem hid_le {S : List Addr} {H : Hp} : Same (hid S H) H := fun _ _ h => (hid_some h).2
theorem hid_sub {S T : List Addr} {H : Hp} (h : ∀ a, a ∈ T → a ∈ S) : Same (hid S H) (hid T H) := fun a o e => by
  obtain ⟨m, k⟩ := hid_some e
  exact hid_at (fun z => m (h a z)) k
/-- all but what stands at S is as it was -/
def Rk (S : List Addr) (H H' : Hp) : Prop := Same (hid S H) (hid S H')
theorem Rk.refl (S : List Addr) (H : Hp) : Rk S H H := Same.refl _
theorem Rk.trans {S : List Addr} {H H1 H2 : Hp} (a : Rk S H H1) (b : Rk S H1 H2) : Rk S H H2 := Same.trans a b
theorem Rk.of {S : List Addr} {H H' : Hp} (s : Same H H') : Rk S H H' := fun a o e => by
  obtain ⟨m, k⟩ := hid_some e
  exact hid_at m (s a o k)
theorem Rk.sub {S T : List Addr} {H H' : Hp} (r : Rk T H H') (h : ∀ a, a ∈ T → a ∈ S) : Rk S H H' := fun a o e => by
  obtain ⟨m, k⟩ := hid_some e
  exact hid_at m (hid_some (r a o (hid_at (fun z => m (h a z)) k))).2
theorem Rk.at {S : List Addr} {H H' : Hp} (r : Rk S H H') {a : Addr} {o : HO} (m : a ∉ S) (h : H a = some o) : H' a = some o := (hid_some (r a o (hid_at m h))).2
theorem Rk.wr {S : List Addr} {H : Hp} {p : Addr} {o : HO} (m : p ∈ S) : Rk S H (upd H p o) := fun a u e => by
  obtain ⟨n, k⟩ := hid_some e
  have np : a ≠ p := fun z => by
    subst z
    exact n m
  refine hid_at n ?_
  rw [upd_ne np]
  exact k
theorem Rk.nil {H H' : Hp} (s : Rk [] H H') : Same H H' := fun a o h => s.at List.not_mem_nil h
theorem same_new {H : Hp} {p : Addr} {o : HO} (h : H p = none) : Same H (upd H p o) := fun b u q => by
  rw [upd_ne (ne_of_none q h)]
  exact q
/-- what is hidden stands: a new address is none of these -/
def Live (S : List Addr) (H : Hp) : Prop := ∀ a, a ∈ S → H a ≠ none
theorem Live.nil {H : Hp} : Live [] H := fun _ h => absurd h List.not_mem_nil
theorem Live.same {S : List Addr} {H H' : Hp} (l : Live S H) (s : Same H H') : Live S H' := fun a m z => by
  cases e : H a with
  | none => exact l a m e
  | some o =>
    rw [s a o e] at z
    cases z
theorem Live.new {S : List Addr} {H : Hp} {p : Addr} (l : Live S H) (h : H p = none) : p ∉ S := fun m => l p m h
theorem Live.rk {S : List Addr} {H H' : Hp} (l : Live S H) (r : Rk S H H') (k : Live S H') : Live S H' := k

/-! ### data: a value stands for a datum -/
mutual
inductive Dn (K : PySem.W.Frag) (H : Hp) : V → PyData → Prop
  | non : Dn K H .non .none
  | bl (b : Bool) : Dn K H (.bl b) (.bool b)
  | int (i : Int) : Dn K H (.int i) (.int i)
  | str (x : Str) : Dn K H (.str x) (.str x)
  | lst {a : Addr} {vs : List V} {ds : List PyData} : SqL K H a vs → DnAll K H vs ds → Dn K H (.ref a) (.list ds)
  | tup {a : Addr} {vs : List V} {ds : List PyData} : SqT K H a vs → DnAll K H vs ds → Dn K H (.ref a) (.tuple ds)
  | dct {a : Addr} {kvs : List (Key × V)} {kd : List (PyData × PyData)} : H a = some (.dK kvs) → DnAll K H (kvs.map fun p => kV p.1) (kd.map (·.1)) → DnAll K H (kvs.map (·.2)) (kd.map (·.2)) → Dn K H (.ref a) (.dict kd)
inductive DnAll (K : PySem.W.Frag) (H : Hp) : List V → List PyData → Prop
  | nil : DnAll K H [] []
  | cons {v : V} {vs : List V} {d : PyData} {ds : List PyData} : Dn K H v d → DnAll K H vs ds → DnAll K H (v :: vs) (d :: ds)
end
mutual
theorem Dn.mono {K : PySem.W.Frag} {H H' : Hp} (s : Same H H') : ∀ {v : V} {d : PyData}, Dn K H v d → Dn K H' v d
  | _, _, .non => .non
  | _, _, .bl b => .bl b
  | _, _, .int i => .int i
  | _, _, .str x => .str x
  | _, _, .lst h a => .lst (s.seq h) (DnAll.mono s a)
  | _, _, .tup h a => .tup (by
      rcases h with (h | ⟨o, h⟩) | h
      · exact .inl (.inl (s _ _ h))
      · exact .inl (.inr ⟨o, s _ _ h⟩)
      · exact .inr h) (DnAll.mono s a)
  | _, _, .dct h k a => .dct (s _ _ h) (DnAll.mono s k) (DnAll.mono s a)
theorem DnAll.mono {K : PySem.W.Frag} {H H' : Hp} (s : Same H H') : ∀ {vs : List V} {ds : List PyData}, DnAll K H vs ds → DnAll K H' vs ds
  | _, _, .nil => .nil
  | _, _, .cons h t => .cons (Dn.mono s h) (DnAll.mono s t)
end
theorem Dn.r {K : PySem.W.Frag} {S : List Addr} {H H' : Hp} {v : V} {d : PyData} (s : Rk S H H') (h : Dn K (hid S H) v d) : Dn K (hid S H') v d := Dn.mono s h
theorem DnAll.r {K : PySem.W.Frag} {S : List Addr} {H H' : Hp} {v : List V} {d : List PyData} (s : Rk S H H') (h : DnAll K (hid S H) v d) : DnAll K (hid S H') v d := DnAll.mono s h
theorem Dn.up {K : PySem.W.Frag} {S : List Addr} {H : Hp} {v : V} {d : PyData} (h : Dn K (hid S H) v d) : Dn K H v d := Dn.mono hid_le h
theorem DnAll.length {K : PySem.W.Frag} {H : Hp} : ∀ {vs : List V} {ds : List PyData}, DnAll K H vs ds → vs.length = ds.length
  | _, _, .nil => rfl
  | _, _, .cons _ t => congrArg (· + 1) (DnAll.length t)
theorem DnAll.get {K : PySem.W.Frag} {H : Hp} : ∀ {vs : List V} {ds : List PyData} {i : Nat} {v : V}, DnAll K H vs ds → vs[i]? = some v → ∃ d, ds[i]? = some d ∧ Dn K H v d
  | _, _, 0, _, .cons h _, e => ⟨_, rfl, by
      cases e
      exact h⟩
  | _, _, i + 1, _, .cons _ t, e => DnAll.get (i := i) t e
theorem DnAll.getD {K : PySem.W.Frag} {H : Hp} : ∀ {vs : List V} {ds : List PyData} {i : Nat} {d : PyData}, DnAll K H vs ds → ds[i]? = some d → ∃ v, vs[i]? = some v ∧ Dn K H v d
  | _, _, 0, _, .cons h _, e => ⟨_, rfl, by
      cases e
      exact h⟩
  | _, _, i + 1, _, .cons _ t, e => DnAll.getD (i := i) t e
theorem DnAll.append {K : PySem.W.Frag} {H : Hp} : ∀ {vs ws : List V} {ds es : List PyData}, DnAll K H vs ds → DnAll K H ws es → DnAll K H (vs ++ ws) (ds ++ es)
  | _, _, _, _, .nil, s => s
  | _, _, _, _, .cons h t, s => .cons h (DnAll.append t s)
theorem DnAll.take {K : PySem.W.Frag} {H : Hp} : ∀ {vs : List V} {ds : List PyData} (n : Nat), DnAll K H vs ds → DnAll K H (vs.take n) (ds.take n)
  | _, _, 0, _ => .nil
  | _, _, _ + 1, .nil => .nil
  | _, _, n + 1, .cons h t => .cons h (DnAll.take n t)
theorem DnAll.drop {K : PySem.W.Frag} {H : Hp} : ∀ {vs : List V} {ds : List PyData} (n : Nat), DnAll K H vs ds → DnAll K H (vs.drop n) (ds.drop n)
  | _, _, 0, s => s
  | _, _, _ + 1, .nil => .nil
  | _, _, n + 1, .cons _ t => DnAll.drop n t
theorem DnAll.strs {K : PySem.W.Frag} {H : Hp} : ∀ xs : List Str, DnAll K H (xs.map V.str) (xs.map PyData.str)
  | [] => .nil
  | x :: xs => .cons (.str x) (DnAll.strs xs)
theorem DnAll.ints {K : PySem.W.Frag} {H : Hp} : ∀ xs : List Int, DnAll K H (xs.map V.int) (xs.map PyData.int)
  | [] => .nil
  | x :: xs => .cons (.int x) (DnAll.ints xs)

/-! ### sys.modules is no datum -/
/-- the written part knows it -/
def Sm (K : PySem.W.Frag) : Prop := ∃ o, K.lookup sysModules = some o ∧ o.cls = .type "dict"
section
variable {X : Cx} {pins : List (Addr × Obj)} {σ : L2.St} {H : Hp} {s : Shared}
theorem sm_free (I : Inv X pins σ H s) (z : Sm X.K) : H sysModules = none := by
  obtain ⟨o, e, _⟩ := z
  exact (I.bs _ _ (I.ok.mod.kin _ _ e)).2
theorem sm_ne (I : Inv X pins σ H s) (z : Sm X.K) {a : Addr} {o : HO} (h : H a = some o) : a ≠ sysModules := by
  intro e
  subst e
  rw [sm_free I z] at h
  cases h
theorem keyIs_rel {k : Key} {u : Value} (h : keyIs k u = true) : RelV (kV k) u := by
  rcases keyIs_shape h with ⟨i, t, rfl, rfl⟩ | ⟨x, t, rfl, rfl⟩
  · exact ⟨t, rfl⟩
  · exact ⟨t, rfl⟩
theorem pairs_vals : ∀ {kvs : List (Key × V)} {vs : List (Key × Value)} {es : List DictEntry}, KV kvs vs → Pairs (mixKind X.prog X.w) es vs → Vals (kvs.map fun p => kV p.1) (es.map (·.key)) ∧ Vals (kvs.map (·.2)) (es.map (·.val))
  | _, _, _, .nil, .nil => ⟨.nil, .nil⟩
  | _, _, _, .cons (a := a) (b := b) r t, .cons (e := e) h1 h2 p => by
    obtain ⟨q1, q2⟩ := pairs_vals t p
    have k : keyIs b.1 e.key = true := h1
    rw [← r.1] at k
    refine ⟨.cons (keyIs_rel k) q1, .cons ?_ q2⟩
    show L2.RelV a.2 e.val
    rw [h2]
    exact r.2
mutual
theorem Dn.reads (I : Inv X pins σ H s) (z : Sm X.K) : ∀ {d : PyData} {v : V} {u : Value}, Dn X.K H v d → RelV v u → ∃ as, Reads s.heap u d as ∧ sysModules ∉ as
  | _, _, _, .non, r => by
    cases r
    exact ⟨_, Reads.none, List.not_mem_nil⟩
  | _, _, _, .bl b, r => by
    cases r
    exact ⟨_, Reads.bool b, List.not_mem_nil⟩
  | _, _, _, .int i, r => by
    obtain ⟨t, rfl⟩ := r
    exact ⟨_, Reads.int i t, List.not_mem_nil⟩
  | _, _, _, .str x, r => by
    obtain ⟨t, rfl⟩ := r
    exact ⟨_, Reads.str x t, List.not_mem_nil⟩
  | _, _, _, .lst (a := a) hs ha, r => by
    cases r
    obtain ⟨its, rv, ⟨o, n, ho, hc, _, hd⟩, _⟩ := I.list hs
    obtain ⟨as, hr, hm⟩ := Dn.readsAll I z ha rv
    refine ⟨_, Reads.list ho hc hd hr, fun m => ?_⟩
    rcases List.mem_cons.mp m with e | m
    · subst e
      obtain ⟨q, e1, e2⟩ := z
      rw [I.kIn _ _ e1] at ho
      cases ho
      rw [hc] at e2
      exact absurd e2 (by simp)
    · exact hm m
  | _, _, _, .tup hs ha, r => by
    cases r
    obtain ⟨its, rv, ⟨o, ho, hc, n, hd⟩, _⟩ := I.tuple hs
    obtain ⟨as, hr, hm⟩ := Dn.readsAll I z ha rv
    exact ⟨_, Reads.tuple ho hc hd hr, hm⟩
  | _, _, _, .dct hd hk ha, r => by
    cases r
    obtain ⟨hz, hsm, vs, rel, ob, es, ep, h1, h2, h3, _, h4, _⟩ := dk_of I.hok hd
    obtain ⟨r1, r2⟩ := pairs_vals rel h4
    obtain ⟨as, q1, m1⟩ := Dn.readsAll I z hk r1
    obtain ⟨bs, q2, m2⟩ := Dn.readsAll I z ha r2
    refine ⟨_, Reads.dict h1 h2.1 h3 q1 q2, fun m => ?_⟩
    rcases List.mem_append.mp m with m | m
    · rcases List.mem_cons.mp m with e | m
      · rw [← e] at hsm
        simp at hsm
      · exact m1 m
    · exact m2 m
theorem Dn.readsAll (I : Inv X pins σ H s) (z : Sm X.K) : ∀ {ds : List PyData} {vs : List V} {us : List Value}, DnAll X.K H vs ds → Vals vs us → ∃ as, ReadsAll s.heap us ds as ∧ sysModules ∉ as
  | _, _, _, .nil, r => by
    cases r
    exact ⟨_, ReadsAll.nil, List.not_mem_nil⟩
  | _, _, _, .cons h1 h2, r => by
    cases r with
    | cons r1 r2 =>
      obtain ⟨as, q1, m1⟩ := Dn.reads I z h1 r1
      obtain ⟨bs, q2, m2⟩ := Dn.readsAll I z h2 r2
      exact ⟨_, ReadsAll.cons q1 q2, fun m => (List.mem_append.mp m).elim m1 m2⟩
end
end
end Fg
/-! Fgb: defs that are entered where no repr runs (the law's own), their calls, the law's end. -/
namespace Fg
open PySem PySem.Spec PyProof.Rows L2
/-- as FnOk, at a place where no display runs -/
structure FnG (P : Program) (w : World) (K : PySem.W.Frag) (mg : Str → Option Value) (base : Heap) (CX : CXT) (k : Nat) (f : Addr) (fd : FuncData) (ps : List Str) (sp : Sp) : Prop where
  len : ∀ vs H Q E, sp vs H Q E → vs.length = ps.length
  run : ∀ (A : Around) (out : List Env) (s : Shared) (H : Hp) (ar : Args) (us : List Value) (vs : List V) (Q : VK) (E : XK), Room k A → A.guards = some [] → Env0 P w K mg base A out s H →
    BindsTo s fd ar (ps.zip us) → Vals vs us → sp vs H Q E → codeAny (model P w) A (.call (.ref f) ar) (CR CX out P w H s Q E) s
section
variable {P : Program} {w : World} {K : PySem.W.Frag} {mg : Str → Option Value} {base : Heap} {CX : CXT} {j k : Nat} {f : Addr} {fd : FuncData} {ps : List Str} {sp : Sp}
theorem FnG.mono (F : FnG P w K mg base CX j f fd ps sp) (h : j ≤ k) : FnG P w K mg base CX k f fd ps sp :=
  ⟨F.len, fun A out s H ar us vs Q E hr hg => F.run A out s H ar us vs Q E (hr.mono h) hg⟩
theorem FnG.of (F : FnOk P w K mg base CX k f fd ps sp) : FnG P w K mg base CX k f fd ps sp :=
  ⟨F.len, fun A out s H ar us vs Q E hr _ => F.run A out s H ar us vs Q E hr⟩
/-- a def by its body, the place of its entry being free of displays -/
theorem fng_of {name qual : Str} {params : Arguments} {body : List Stmt} {sc : Scope} {dV kV doc pm cdv ct oc : Value} {an od : Option Addr} {osl : Array (Option Value)} {N : List Str}
    (lk : K.lookup f = some ⟨oc, od, .func (PySem.W.fnOf name qual params body sc dV kV doc pm an cdv ct), osl⟩) (hcd : PySem.W.codeIn K cdv qual = true) (S : FnScope N ps sc)
    (len : ∀ vs H Q E, sp vs H Q E → vs.length = ps.length)
    (hb : ∀ (A : Around) (out : List Env) (s : Shared) (H : Hp) (vs : List V) (Q : VK) (E : XK), Room k (A.deeper (envOfC qual sc s.heap.objs.size f cdv)) → A.guards = some [] → sp vs H Q E →
      ∃ t, PSs (cxOf CX P w K mg base N qual sc f cdv A out s H E) body t ∧ t { nx := fun _ H' => Q .non H', rt := Q } (start N vs) H) :
    FnG P w K mg base CX (k + 1) f (PySem.W.fnOf name qual params body sc dV kV doc pm an cdv ct) ps sp := by
  refine ⟨len, fun A out s H ar us vs Q E hr hg e0 bt rv hsp => ?_⟩
  have kin : K.In s.heap := e0.mod.kin.keeps fun b o e => (e0.bs b o e).1
  have nol : s.heap.NoLimit := e0.mod.nolimit.keeps fun b o e => (e0.bs b o e).1
  have kinds : ∀ y ∈ ps.zip us, sc.names.lookup y.1 = some .local ∨ (sc.names.lookup y.1 = some .cell ∧ ((cellsFrom (s.heap.objs.size + 1) sc.names []).lookup y.1).isSome = true) := by
    rintro ⟨n, v⟩ hy
    rcases S.par n (List.of_mem_zip hy).1 with q | q
    · exact .inl q
    · exact .inr ⟨q, PySem.W.cellsFrom_some _ _ _ (.inl q)⟩
  refine codeAny_call_function hr.depth (kin _ _ lk) rfl S.co S.gen rfl (PySem.W.codeRec_of kin hcd) (bt _ _ _ _ ?_)
  refine wpAny_newFunctionEnv_cells S.kind kinds fun en he s1 x => ?_
  subst he
  refine ⟨nol.keeps x.toInCall.keep, codeAny_func ?_⟩
  obtain ⟨t, ht, hq⟩ := hb A out s H vs Q E (hr.deeper _) hg hsp
  have I0 := inv_start (CX := CX) (E := E) S hr.hd e0 (len _ _ _ _ hsp) rv x
  refine wpAny_mono (ht.run [] s1 (start N vs) H _ I0 hq) (fun fl s' hs => ?_) fun e s' hs => hs
  cases fl with
  | next =>
    obtain ⟨σ', H', J, q⟩ := hs
    exact ⟨.non, H', J.os, J.bare, J.base, J.hok, rfl, q⟩
  | ret u =>
    obtain ⟨v, σ', H', J, rv', q⟩ := hs
    exact ⟨v, H', J.os, J.bare, J.base, J.hok, rv', q⟩
  | brk =>
    obtain ⟨_, _, _, q⟩ := hs
    exact q.elim
  | cont =>
    obtain ⟨_, _, _, q⟩ := hs
    exact q.elim
end
section
variable {X : Cx} {CX : CXT} {k : Nat} {f : Addr} {fd : FuncData} {ps : List Str} {sp : Sp} {E : XK} {x : Str} {p pos : Pos} {e : Expr} {es : List Expr} {t : TA}
/-- f(e, ..), f such a def, every parameter given by its place -/
theorem pe_callG (F : FnG X.prog X.w X.K X.mg X.base CX k f fd ps sp) (hr : Room k X.A) (gd : X.A.guards = some []) (hg : Gl X x) (hm : X.mg x = some (.ref f)) (hk : PySem.W.keepIn X.K (.ref f) = true) (hb : Binds X.K fd ps [])
    (hx : Passes CX X E) (ha : PA X (e :: es) t) (hdb : (x == ("__debug__" : Str)) = false := by decide) (he : starEach (e :: es) X.env = (false, eval e X.env) :: starEach es X.env := by rfl)
    (hpl : (backTo pos (starEach es X.env)).any (·.1) = false := by rfl) : PE X (.Call (.Name x p) (e :: es) [] pos) (tCall sp [] E t) := by
  refine ⟨fun pins s σ H Q I h => wpAny_Call_Name_kw (ld_glob I hg hm ?_ hdb)⟩
  refine PySem.W.callWith_K (h₀ := X.base) I.ok.mod.kin hk (thn (ha.run pos pins s σ H _ I h) fun us s1 ⟨vs, H1, I1, r, q⟩ => ⟨I1.kIn, ?_⟩) he hpl
  have q : sp (vs ++ []) H1 Q E := q
  rw [List.append_nil] at q
  have hl : (us ++ []).length = ps.length := by
    rw [List.append_nil, ← r.length]
    exact F.len _ _ _ _ q
  have bt := hb s1 us I1.kIn hl
  rw [List.append_nil] at bt
  refine wpAny_call (codeAny_mono (F.run X.A X.stack s1 H1 ⟨us, []⟩ us vs Q E hr gd I1.env0 bt r q) fun rs s' hq => ?_)
  cases rs with
  | error er => exact hx pins σ H1 s1 er s' I1 hq
  | ok fl =>
    cases fl with
    | ret u => exact I1.after hq
    | next => exact False.elim hq
    | brk => exact False.elim hq
    | cont => exact False.elim hq
end
/-! ### a def with its defaults (FunD), by its body -/
section
variable {P : Program} {w : World} {K : PySem.W.Frag} {mg : Str → Option Value} {base : Heap}
theorem _root_.L2.FunD.okG {x qual : Str} {ar : Arguments} {bd : List Stmt} {sc : Scope} {dvs : List V} {kws : List (Str × V)} {f : Addr} {fd : FuncData} {N ps : List Str} {k : Nat} {sp : Sp} {CX : CXT} (F : FunD K x qual ar bd sc dvs kws f fd) (S : FnScope N ps sc)
    (len : ∀ vs H Q E, sp vs H Q E → vs.length = ps.length)
    (hb : ∀ (cdv : Value) (A : Around) (out : List Env) (s : Shared) (H : Hp) (vs : List V) (Q : VK) (E : XK), Room k (A.deeper (envOfC qual sc s.heap.objs.size f cdv)) → A.guards = some [] → sp vs H Q E →
      ∃ t, PSs (cxOf CX P w K mg base N qual sc f cdv A out s H E) bd t ∧ t { nx := fun _ H' => Q .non H', rt := Q } (start N vs) H) : FnG P w K mg base CX (k + 1) f fd ps sp := by
  obtain ⟨oc, od, dV, kV, doc, pm, an, cdv, ct, osl, rfl, lk, hcd, _, _⟩ := F.ex
  exact fng_of lk hcd S len fun A out s H vs Q E hr hg hsp => hb cdv A out s H vs Q E hr hg hsp
end
/-! ### the law's end -/
/-- a law that is entered by its caller, no display running -/
theorem law_callG {P : Program} {w : World} {K : PySem.W.Frag} {mg mb : Str → Option Value} {CX : CXT} {k : Nat} {fa a : Addr} {fd : FuncData} {x : Str} {sp : Sp} {s1 : Shared} {us : List Value} {ns : List Int}
    (kin : K.In s1.heap) (gns : s1.heap.Ns mainGlobals mg) (bns : s1.heap.Ns builtinsNs mb) (boot : ∀ y : Str, y ≠ "__name__" → mb y = bootBuiltins y) (nol : s1.heap.NoLimit) (gens : s1.gens = #[])
    (at_ : s1.heap.get? a = some { cls := .type "list", data := .seq us.toArray }) (iar : IntsAre us ns) (hl : ns.length ≤ sizeLine) (rm : Room k callerA)
    (F : ∀ base : Heap, K.In base → base.Ns mainGlobals mg → FnG P w K mg base CX k fa fd [x] sp) (bt : ∀ (s : Shared) (u : Value), BindsTo s fd ⟨[u], []⟩ [(x, u)])
    (hsp : ∀ H : Hp, SqL K H a (ns.map V.int) → sp [.ref a] H (fun v _ => v = .bl true) fun _ _ _ => False) (noX : ∀ H e s', CX [] H s1 (fun _ _ _ => False) e s' → False) :
    codeAny (model P w) callerA (.call (.ref fa) ⟨[.ref a], []⟩) (fun r s' => r = .ok (.ret (.bool true)) ∧ OldK s1.heap s'.heap ∧ s'.os = s1.os ∧ AllBare s'.gens) s1 := by
  have rels := vals_ints iar
  have lens := iar.length
  have main : ∀ H : Hp, (∀ b, H b = none ∨ ∃ ob ys, H b = some (.frz ob (.lst ys))) → SqL K H a (ns.map V.int) → HOk P w H s1.heap → (∀ b, H b ≠ none → b = a) → (H a ≠ none → K.lookup a = none) →
      codeAny (model P w) callerA (.call (.ref fa) ⟨[.ref a], []⟩) (fun r s' => r = .ok (.ret (.bool true)) ∧ OldK s1.heap s'.heap ∧ s'.os = s1.os ∧ AllBare s'.gens) s1 := by
    intro H frz sq hok one notK
    have low : ∀ {b : Addr} {o : Obj}, s1.heap.get? b = some o → H b = none → (hidT s1.heap H).get? b = some o := fun e1 e2 => hidT_get e1 e2
    have isA : ∀ {b : Addr} {u : HO}, H b = some u → b = a := fun {b u} e => one b (by simp [e])
    have dictFree : ∀ {b : Addr} {o : Obj} {es : Array DictEntry} {ep : Nat}, s1.heap.get? b = some o → o.data = .dict es ep → H b = none := by
      intro b o es ep e1 e2
      cases q : H b with
      | none => rfl
      | some u =>
        cases isA q
        rw [at_] at e1
        cases e1
        exact nomatch (show Data.seq us.toArray _ = Data.dict es ep from e2)
    have lowNs : ∀ {b : Addr} {m : Str → Option Value}, s1.heap.Ns b m → (hidT s1.heap H).Ns b m := fun {b m} z => by
      obtain ⟨o, es, ep, e1, e2, e3⟩ := z
      exact ⟨o, es, ep, low e1 (dictFree e1 e2), e2, e3⟩
    have kinB : K.In (hidT s1.heap H) := fun b o e1 => low (kin b o e1) (by
      cases q : H b with
      | none => rfl
      | some u =>
        cases isA q
        rw [notK (by simp [q])] at e1
        cases e1)
    have md : Mod K mg (hidT s1.heap H) := by
      obtain ⟨mc, n1, n2⟩ := nol
      exact ⟨kinB, lowNs gns, ⟨mb, lowNs bns, boot⟩, ⟨mc, lowNs n1, n2⟩⟩
    have env : Env0 P w K mg (hidT s1.heap H) callerA [] s1 H :=
      ⟨rfl, md, fun b o e1 => of_hidT e1, Nat.le_of_eq (hidT_size _ _), trivial, fun b hb => absurd (show b ∈ ([] : List Addr) from hb) List.not_mem_nil, hok, .of_eq gens⟩
    have G := F _ kinB (lowNs gns)
    refine codeAny_mono (G.run callerA [] s1 H ⟨[.ref a], []⟩ [.ref a] [.ref a] _ _ rm rfl env (bt s1 (.ref a)) (.cons rfl .nil) (hsp H sq)) fun r s' h => ?_
    cases r with
    | error er => exact (noX H er s' h).elim
    | ok fl =>
      cases fl with
      | ret u =>
        obtain ⟨v, H2, os, bare, un, hok2, rel, q⟩ := h
        have q : v = .bl true := q
        subst q
        obtain rfl : u = Value.bool true := rel
        refine ⟨rfl, OldK.of_keep fun b o e1 => ?_, os, bare⟩
        rcases frz b with z | ⟨ob, ys, z⟩
        · exact un.keep b o e1 z (fun m => absurd (show b ∈ ([] : List Addr) from m) List.not_mem_nil) List.not_mem_nil
        · have z2 := un.frzs b ob _ z
          obtain ⟨g1, _⟩ := hok b _ z
          obtain ⟨g2, _⟩ := hok2 b _ z2
          rw [e1] at g1
          cases g1
          exact g2
      | next => exact False.elim h
      | brk => exact False.elim h
      | cont => exact False.elim h
  cases hk : K.lookup a with
  | some o =>
    have e1 := kin a o hk
    rw [at_] at e1
    cases e1
    have sz : us.toArray.size ≤ sizeLine := by
      rw [List.size_toArray, lens]
      exact hl
    refine main (fun _ => none) (fun _ => .inl rfl) (.inr ⟨_, us.toArray, _, hk, rfl, rfl, rfl, sz, by simpa using rels⟩) (fun b u z => ?_) (fun b z => absurd rfl z) fun z => absurd rfl z
    exact nomatch (show (none : Option HO) = some u from z)
  | none =>
    have ln : (ns.map V.int).length ≤ sizeLine := by
      rw [List.length_map]
      exact hl
    refine main (fun b => if b = a then some (.frz { cls := .type "list", data := .seq us.toArray } (.lst (ns.map V.int))) else none) (fun b => ?_) (.inl (.inr ⟨_, if_pos rfl⟩)) (fun b u z => ?_) (fun b z => ?_) fun _ => hk
    · by_cases hb : b = a
      · exact .inr ⟨_, _, if_pos hb⟩
      · exact .inl (if_neg hb)
    · by_cases hb : b = a
      · have z := (if_pos hb).symm.trans z
        cases z
        cases hb
        exact ⟨at_, ln, us, _, rels, at_⟩
      · exact nomatch ((if_neg hb).symm.trans z)
    · by_cases hb : b = a
      · exact hb
      · exact absurd (if_neg hb) z
theorem walk_ofG {l : PySem.W.OpenLaw} {n k : Nat} {q : Program} {loose : List Str} {XP : (Str → Option Value) → Heap → Prop} {YP : World → Heap → Prop} {d : DefRec} {CX : CXT} {x : Str}
    (hn : l.most = some n) (hn2 : n ≤ sizeLine) (hdf : d.params.defaults = []) (rm : Room k callerA)
    (F : ∀ (w : World) (mg : Str → Option Value) (fa : Addr) (h : Heap), YP w h → h.Ns mainGlobals mg → mg d.name = some (.ref fa) →
      ∃ (K : PySem.W.Frag) (fd : FuncData) (sp : Sp), K.In h ∧ (∀ (s : Shared) (u : Value), BindsTo s fd ⟨[u], []⟩ [(x, u)]) ∧
        (∀ (H : Hp) (a : Addr) (ns : List Int), ns.length ≤ n → SqL K H a (ns.map V.int) → sp [.ref a] H (fun v _ => v = .bl true) fun _ _ _ => False) ∧
        ∀ base : Heap, K.In base → base.Ns mainGlobals mg → FnG l.prog w K mg base CX k fa fd [x] sp)
    (noX : ∀ (H : Hp) (s : Shared) (e : Value) (s' : Shared), CX [] H s (fun _ _ _ => False) e s' → False) :
    PySem.W.WalkO q loose XP YP l.row.toRowW d [] (fun f vs => PySem.call f vs) := by
  refine Att.attach_call hn hdf fun w s0 s1 mg mb fa o pm cd doc a us ns G Y ho hd hcd hmg hobj hints hlen hg => ?_
  obtain ⟨K, fd, sp, kin, bt, hsp, hF⟩ := F w mg fa _ Y G.T.g hmg
  exact law_callG kin G.T.g G.T.b G.T.builtins G.T.nolimit hg hobj hints (Nat.le_trans hlen hn2) rm hF bt (fun H hS => hsp H a ns hlen hS) fun H e s' => noX H s1 e s'
end Fg
/-! Fgc: the rules of operators and built-ins over data: repr, str, isinstance, len, in, +, *. -/
namespace Fg
open PySem PySem.Spec PyProof.Rows L2
open PySem.SeqAt PySem.MeetsSeq PySem.AutoSeq1
/-! ### a text and a dict are not equal -/
theorem str_declines_dict (b : Str) (u : Tok) (l : Addr) (es : Array DictEntry) (n : Nat) (dd : Option Addr) (sl : Array (Option Value)) :
    Meets (Builtin.«str.__eq__» ⟨[.str b u, .ref l], []⟩) (fun _ R s => s.heap.get? l = some { cls := .type "dict", dict := dd, data := .dict es n, slots := sl } ∧ R (.ok (.ret .notImplemented)) s) :=
  .of_wp fun prog w A R s h => by
    obtain ⟨hp, g, d, tk, os⟩ := s
    obtain ⟨hl, h⟩ := h
    wp_walk using wpAny_load hl
    exact ⟨_, rfl, h⟩
theorem dict_declines_str (l : Addr) (es : Array DictEntry) (n : Nat) (dd : Option Addr) (sl : Array (Option Value)) (b : Str) (u : Tok) :
    Meets (Builtin.«dict.__eq__» ⟨[.ref l, .str b u], []⟩) (fun _ R s => s.heap.get? l = some { cls := .type "dict", dict := dd, data := .dict es n, slots := sl } ∧ R (.ok (.ret .notImplemented)) s) :=
  .of_wp fun prog w A R s h => by
    obtain ⟨hp, g, d, tk, os⟩ := s
    obtain ⟨hl, h⟩ := h
    have f1 := F.sub_str_dict
    wp_walk using wpAny_load hl
    exact ⟨_, rfl, h⟩
theorem eq_str_dict {A : Around} {s : Shared} {l : Addr} {o : Obj} {es : Array DictEntry} {n : Nat} (b : Str) (u : Tok) (ho : s.heap.get? l = some o) (hc : o.cls = .type "dict") (hd : o.data = .dict es n) (hu : A.units < cLine) :
    EqAt A s (.str b u) (.ref l) false := fun prog w E Q h => by
  obtain ⟨cl, dd, dat, sl⟩ := o
  have hc : cl = .type "dict" := hc
  have hd : dat = .dict es n := hd
  subst hc hd
  unfold eqBool
  refine wpAny_holding ?_
  refine wpAny_ite_split (fun e => absurd (eq_of_beq e) nofun) fun _ => wpAny_bind ?_
  refine rc_eq_decline_or (k := false) (typeIs_str s b u) ⟨_, ho, rfl⟩ (by decide) F.sub_dict_str F.slot_str_eq F.slot_dict_eq_refl (fun _ q => ?_) (fun _ q => ?_) (fun _ q => ?_) (.inr hu) (wpAny_truthy_bool h)
  · exact call_meets F.slot_str_eq (typeIs_str s b u) F.entry_str_eq (F.args_str_eq_2 _ _) (str_declines_dict b u l es n dd sl) ⟨ho, q⟩
  · exact call_meets F.slot_dict_eq_refl ⟨_, ho, rfl⟩ F.entry_dict_eq (F.args_dict_eq_2 _ _) (dict_declines_str l es n dd sl b u) ⟨ho, q⟩
  · exact wpAny_of_eq (rfl : isSame (.str b u) (.ref l) = pure false) q
/-- whether a datum is a text x -/
def isTxt (x : Str) : PyData → Bool
  | .str y => x == y
  | _ => false
theorem eq_str_any {A : Around} {s : Shared} {x : Str} {t : Tok} {u : Value} {d : PyData} {as : List Addr} (r : Reads s.heap u d as) (hu : A.units < cLine) : EqAt A s (.str x t) u (isTxt x d) := by
  cases r with
  | none => exact EqAt.str_none x t
  | bool b => exact EqAt.str_bool x t b
  | int i v => exact EqAt.str_int x t i v
  | str y v => exact EqAt.str_str x t y v
  | list k1 k2 k3 k4 => exact EqAt.str_list x t ⟨_, k1, k2, _, k3⟩ hu
  | tuple k1 k2 k3 k4 => exact EqAt.str_tuple x t ⟨_, k1, k2, _, k3⟩ hu
  | dict k1 k2 k3 _ _ => exact eq_str_dict x t k1 k2 k3 hu

section
variable {X : Cx}
theorem any_map_str {xs : List Str} {us : List Value} {e : Value → Bool} {p : Str → Bool} (r : Vals (xs.map V.str) us) (h : ∀ x t, e (.str x t) = p x) : us.any e = xs.any p := by
  induction xs generalizing us with
  | nil =>
    cases r
    rfl
  | cons x xs ih =>
    rw [List.map_cons] at r
    cases r with
    | cons r1 r2 =>
      obtain ⟨t, rfl⟩ := r1
      rw [List.any_cons, List.any_cons, h, ih r2]
theorem str_of_mem {xs : List Str} {us : List Value} {u : Value} (r : Vals (xs.map V.str) us) (h : u ∈ us) : ∃ x t, u = .str x t := by
  induction xs generalizing us with
  | nil =>
    cases r
    cases h
  | cons x xs ih =>
    rw [List.map_cons] at r
    cases r with
    | cons r1 r2 =>
      obtain ⟨t, rfl⟩ := r1
      rcases List.mem_cons.mp h with e | m
      · exact ⟨x, t, e⟩
      · exact ih r2 m
/-- d in texts (a list or tuple of texts), d any datum -/
def rInT (K : PySem.W.Frag) (neg : Bool) : R2 := fun x y H Q => ∃ (a : Addr) (ss : List Str) (d : PyData), y = .ref a ∧ (SqL K H a (ss.map V.str) ∨ SqT K H a (ss.map V.str)) ∧ Dn K H x d ∧ Q (.bl (if neg then !ss.any (fun z => isTxt z d) else ss.any fun z => isTxt z d)) H
theorem op_inT (z : Sm X.K) (hu : X.A.units + 1 < cLine) : OpR X (compareOp .In) (rInT X.K false) := by
  intro pins s σ H x y v u Q I rx ry h
  obtain ⟨a, ss, d, rfl, hs, hd, q⟩ := h
  cases ry
  obtain ⟨as, rd, _⟩ := Dn.reads I z hd rx
  have key : ∀ its : List Value, Vals (ss.map V.str) its → (∀ y, y ∈ its.toArray → EqAt X.A.in1 s y v (match y with | .str w _ => isTxt w d | _ => false)) ∧ its.toArray.any (fun y => match y with | .str w _ => isTxt w d | _ => false) = ss.any fun w => isTxt w d := by
    intro its r
    refine ⟨fun y hy => ?_, ?_⟩
    · obtain ⟨w, t, rfl⟩ := str_of_mem r (by simpa using hy)
      exact eq_str_any rd hu
    · rw [List.any_toArray]
      exact any_map_str r fun _ _ => rfl
  rcases hs with hs | hs
  · obtain ⟨its, r, p, _⟩ := I.list hs
    obtain ⟨k1, k2⟩ := key its r
    exact in_listAt _ p.isList k1 (by rw [k2]; exact ⟨.bl _, H, I, rfl, q⟩)
  · obtain ⟨its, r, p, _⟩ := I.tuple hs
    obtain ⟨k1, k2⟩ := key its r
    exact in_tupleAt _ p k1 (by rw [k2]; exact ⟨.bl _, H, I, rfl, q⟩)
theorem op_notInT (z : Sm X.K) (hu : X.A.units + 1 < cLine) : OpR X (compareOp .NotIn) (rInT X.K true) := by
  intro pins s σ H x y v u Q I rx ry h
  obtain ⟨a, ss, d, rfl, hs, hd, q⟩ := h
  cases ry
  obtain ⟨as, rd, _⟩ := Dn.reads I z hd rx
  have key : ∀ its : List Value, Vals (ss.map V.str) its → (∀ y, y ∈ its.toArray → EqAt X.A.in1 s y v (match y with | .str w _ => isTxt w d | _ => false)) ∧ its.toArray.any (fun y => match y with | .str w _ => isTxt w d | _ => false) = ss.any fun w => isTxt w d := by
    intro its r
    refine ⟨fun y hy => ?_, ?_⟩
    · obtain ⟨w, t, rfl⟩ := str_of_mem r (by simpa using hy)
      exact eq_str_any rd hu
    · rw [List.any_toArray]
      exact any_map_str r fun _ _ => rfl
  rcases hs with hs | hs
  · obtain ⟨its, r, p, _⟩ := I.list hs
    obtain ⟨k1, k2⟩ := key its r
    exact notIn_listAt _ p.isList k1 (by rw [k2]; exact ⟨.bl _, H, I, rfl, q⟩)
  · obtain ⟨its, r, p, _⟩ := I.tuple hs
    obtain ⟨k1, k2⟩ := key its r
    exact notIn_tupleAt _ p k1 (by rw [k2]; exact ⟨.bl _, H, I, rfl, q⟩)

/-! ### repr, str -/
def rRepr (K : PySem.W.Frag) : List V → Hp → VK → Prop := fun xs H Q => ∃ (x : V) (d : PyData), xs = [x] ∧ Dn K H x d ∧ d.showable = true ∧ d.depth ≤ 60 ∧ d.shown.length ≤ sizeLine ∧ Q (.str d.shown) H
theorem call_reprD (z : Sm X.K) (gd : X.A.guards = some []) (hu : X.A.units + 64 < cLine) : CallR X (.builtin "repr") (rRepr X.K) := by
  intro pins s σ H xs us Q I r h
  obtain ⟨x, d, rfl, hd, sh, dp, ln, q⟩ := h
  obtain ⟨u, rfl, rx⟩ := vals1 r
  obtain ⟨as, rd, nm⟩ := Dn.reads I z hd rx
  cases rd with
  | none =>
    have ln : (PyData.none.shown).length ≤ sizeLine := ln
    exact PySem.P.repr_of_none ⟨.str _, H, I.tok _, ⟨_, rfl⟩, by simpa only [PyData.shown] using q⟩
  | bool b => exact PySem.P.repr_of_bool ⟨.str _, H, I.tok _, ⟨_, rfl⟩, by simpa only [PyData.shown] using q⟩
  | int i t => exact PySem.P.repr_of_int (by simpa [PyData.showable] using sh) ⟨.str _, H, I.tok _, ⟨_, rfl⟩, by simpa only [PyData.shown] using q⟩
  | str y t => exact PySem.P.repr_of_str ⟨.str _, H, I.tok _, ⟨_, rfl⟩, by simpa only [PyData.shown] using q⟩ (by simpa only [PyData.shown] using ln)
  | list k1 k2 k3 k4 => exact repr_of_reads' (Reads.list k1 k2 k3 k4) sh (fun _ => nm) gd (by omega) (fun _ _ e => e) (fun h' t tk k => ⟨.str _, H, I.kept k, ⟨t, rfl⟩, q⟩) ln
  | tuple k1 k2 k3 k4 => exact repr_of_reads' (Reads.tuple k1 k2 k3 k4) sh (fun _ => nm) gd (by omega) (fun _ _ e => e) (fun h' t tk k => ⟨.str _, H, I.kept k, ⟨t, rfl⟩, q⟩) ln
  | dict k1 k2 k3 k4 k5 => exact repr_of_reads' (Reads.dict k1 k2 k3 k4 k5) sh (fun _ => nm) gd (by omega) (fun _ _ e => e) (fun h' t tk k => ⟨.str _, H, I.kept k, ⟨t, rfl⟩, q⟩) ln
def rStr : List V → Hp → VK → Prop := fun xs H Q => (∃ a, xs = [.str a] ∧ Q (.str a) H) ∨ ∃ i, xs = [.int i] ∧ i.natAbs.log2 < 1920 ∧ Q (.str (toString i)) H
theorem call_strD : CallR X (.type "str") rStr := by
  intro pins s σ H xs us Q I r h
  rcases h with ⟨a, rfl, q⟩ | h
  · obtain ⟨u, rfl, t, rfl⟩ := vals1 r
    exact PySem.P.str_of_str ⟨.str a, H, I, ⟨t, rfl⟩, q⟩
  · exact call_str_int pins s σ H xs us Q I r h

/-! ### isinstance of a datum -/
def tyIs (T : String) : PyData → Bool
  | .none => T == "NoneType"
  | .bool _ => T == "bool" || T == "int"
  | .int _ => T == "int"
  | .str _ => T == "str"
  | .list _ => T == "list"
  | .tuple _ => T == "tuple"
  | .dict _ => T == "dict"
def tyName : PyData → String
  | .none => "NoneType"
  | .bool _ => "bool"
  | .int _ => "int"
  | .str _ => "str"
  | .list _ => "list"
  | .tuple _ => "tuple"
  | .dict _ => "dict"
theorem Dn.ty {K : PySem.W.Frag} {H : Hp} {v : V} {d : PyData} (h : Dn K H v d) : ∃ t, TyX K H v (.type t) ∧ t = tyName d := by
  cases h with
  | non => exact ⟨_, .base .non, rfl⟩
  | bl b => exact ⟨_, .base (.bl b), rfl⟩
  | int i => exact ⟨_, .base (.int i), rfl⟩
  | str x => exact ⟨_, .base (.str x), rfl⟩
  | lst hs _ =>
    rcases hs with (hs | ⟨o, hs⟩) | ⟨o, its, n, e, c, _⟩
    · exact ⟨_, .base (.lst hs), rfl⟩
    · exact ⟨_, .base (.frz hs), rfl⟩
    · exact ⟨_, .kList e c, rfl⟩
  | tup hs _ =>
    rcases hs with (hs | ⟨o, hs⟩) | ⟨o, its, n, e, c, _⟩
    · exact ⟨_, .base (.tup hs), rfl⟩
    · exact ⟨_, .fTuple hs, rfl⟩
    · exact ⟨_, .kTuple e c, rfl⟩
  | dct hd _ _ => exact ⟨_, .base (.dK hd), rfl⟩
def rIsiD (K : PySem.W.Frag) : List V → Hp → VK → Prop := fun xs H Q => ∃ (x : V) (d : PyData) (T : String), xs = [x, .ty T] ∧ Dn K H x d ∧ T ∈ ["int", "bool", "str", "list", "tuple", "dict"] ∧ Q (.bl (tyIs T d)) H
theorem call_isiD : CallR X (.builtin "isinstance") (rIsiD X.K) := by
  intro pins s σ H xs us Q I r h
  obtain ⟨x, d, T, rfl, hd, hT, q⟩ := h
  obtain ⟨t, ty, e⟩ := hd.ty
  have k : kitB t T = some (tyIs T d) := by
    subst e
    simp only [List.mem_cons, List.not_mem_nil, or_false] at hT
    rcases hT with rfl | rfl | rfl | rfl | rfl | rfl <;> cases d <;> simp only [tyName, tyIs] <;> decide +kernel
  exact call_isi pins s σ H _ us Q I r ⟨x, .ty T, .type t, .type T, tyIs T d, rfl, .ty T, ty, kit_ty k, q⟩
end
end Fg
/-! Fgd: readings step by step; the pot; tactics by keys of walk_at. -/
namespace Fg
open PySem PySem.Spec PyProof.Rows L2

/-! ### operators of several kinds -/
theorem op_alt {X : Cx} {f : Value → Value → Sem Value} {r r' : R2} (h : OpR X f r) (h' : OpR X f r') : OpR X f (fun x y H Q => r x y H Q ∨ r' x y H Q) := by
  intro pins s σ H x y v u Q I rx ry q
  rcases q with q | q
  · exact h pins s σ H x y v u Q I rx ry q
  · exact h' pins s σ H x y v u Q I rx ry q
def rAddS : R2 := fun x y H Q => ∃ i j, x = .str i ∧ y = .str j ∧ i.length + j.length ≤ sizeLine ∧ Q (.str (i ++ j)) H
/-- list + list, tracked or written -/
def rCatL (K : PySem.W.Frag) : R2 := fun x y H Q => ∃ l b xs zs, x = .ref l ∧ y = .ref b ∧ H l = some (.lst xs) ∧ H b = some (.lst zs) ∧ xs.length + zs.length ≤ sizeLine ∧ ∀ p, H p = none → Q (.ref p) (upd H p (.lst (xs ++ zs)))
def rAdd (K : PySem.W.Frag) : R2 := fun x y H Q => rI0 (fun i j => .int (i + j)) x y H Q ∨ rAddS x y H Q ∨ rCat x y H Q ∨ rCatA K x y H Q
theorem op_addU {X : Cx} : OpR X (binaryOp .Add) (rAdd X.K) := op_alt op_add (op_alt op_add_str (op_alt op_cat op_catA))
def rMulL : R2 := rRep
def rMul : R2 := fun x y H Q => rI CMul (fun i j => .int (i * j)) x y H Q ∨ rRep x y H Q
theorem op_mulU {X : Cx} : OpR X (binaryOp .Mult) rMul := op_alt op_mul op_rep
def rEqU (K : PySem.W.Frag) : R2 := fun x y H Q => rEq x y H Q ∨ rEqD K x y H Q
def rNeU (K : PySem.W.Frag) : R2 := fun x y H Q => rNe x y H Q ∨ rNeD K x y H Q
theorem op_eqU {X : Cx} (hu : X.A.units + 64 < cLine) : OpR X (compareOp .Eq) (rEqU X.K) := op_alt op_eq (op_eqD hu)
theorem op_neU {X : Cx} (hu : X.A.units + 64 < cLine) : OpR X (compareOp .NotEq) (rNeU X.K) := op_alt op_ne (op_neD hu)
def rInC : R2 := fun x y H Q => ∃ (c : Nat) (z : Str), x = .str ⟨#[c]⟩ ∧ y = .str z ∧ Q (.bl (decide (c ∈ z.cps.toList))) H
def rInU (K : PySem.W.Frag) : R2 := fun x y H Q => rInT K false x y H Q ∨ rInC x y H Q
def rNotInU (K : PySem.W.Frag) : R2 := rInT K true
theorem op_inU {X : Cx} (z : Sm X.K) (hu : X.A.units + 1 < cLine) : OpR X (compareOp .In) (rInU X.K) := op_alt (op_inT z hu) op_in_sign
theorem op_notInU {X : Cx} (z : Sm X.K) (hu : X.A.units + 1 < cLine) : OpR X (compareOp .NotIn) (rNotInU X.K) := op_notInT z hu
def rLenU (K : PySem.W.Frag) : List V → Hp → VK → Prop := fun xs H Q => ∃ x n, xs = [x] ∧ LenV K x H n ∧ Q (.int n) H
theorem call_lenU {X : Cx} : CallR X (.builtin "len") (rLenU X.K) := call_len
def rAbs : List V → Hp → VK → Prop := fun xs H Q => ∃ i, xs = [.int i] ∧ Q (.int (if i < 0 then -i else i)) H
theorem call_absU {X : Cx} : CallR X (.builtin "abs") rAbs := call_abs
def rMax : List V → Hp → VK → Prop := fun xs H Q => ∃ i j, xs = [.int i, .int j] ∧ Q (.int (if j > i then j else i)) H
def rMin : List V → Hp → VK → Prop := fun xs H Q => ∃ i j, xs = [.int i, .int j] ∧ Q (.int (if j < i then j else i)) H
theorem call_maxU {X : Cx} (hc : X.calm = true) : CallR X (.builtin "max") rMax := call_max2 hc
theorem call_minU {X : Cx} (hc : X.calm = true) : CallR X (.builtin "min") rMin := call_min2 hc
def rDivmod : List V → Hp → VK → Prop := fun xs H Q => ∃ i j, xs = [.int i, .int j] ∧ CDivP i j ∧ ∀ p, H p = none → Q (.ref p) (upd H p (.tup [.int (i / j), .int (i % j)]))
theorem call_divmodU {X : Cx} : CallR X (.builtin "divmod") rDivmod := call_divmodW
def rInt : List V → Hp → VK → Prop := fun xs H Q => (∃ i, xs = [.int i] ∧ Q (.int i) H) ∨ ∃ k, xs = [.bl k] ∧ Q (.int (if k then 1 else 0)) H
theorem call_intU {X : Cx} : CallR X (.type "int") rInt := call_int1
theorem divp_small {i j : Int} (h : 0 < j) (h2 : j < 2 ^ 200) : CDivP i j := by
  refine ⟨h, ?_⟩
  have e0 : ¬ (j == 0) = true := by
    simp
    omega
  have hl : j.natAbs.log2 < 200 := by
    have h3 : j.natAbs < 2 ^ 200 := by
      have : ((2 : Int) ^ 200) = ((2 ^ 200 : Nat) : Int) := by decide
      rw [this] at h2
      omega
    rw [Nat.log2_lt (by omega)]
    exact h3
  show (decide ((if j == 0 then 0 else j.natAbs.log2 / 30 + 1) > 300) && _) = false
  rw [if_neg e0, decide_eq_false (by omega), Bool.false_and]

/-! ### readings step by step -/
section
variable {K : PySem.W.Frag} {S : List Addr} {σ : L2.St} {H : Hp} {ta tb te tc : TE} {t u : TT} {D : Ends} {Q : VK} {tr : TA} {ts tw : TS} {v x y : V}
theorem st_var {i : Nat} (h : σ[i]? = some (some v)) (q : Q v H) : tVar i σ H Q := ⟨v, h, q⟩
theorem st_c (q : Q v H) : tC v σ H Q := q
theorem st_op {r : R2} (q : ta σ H fun x H1 => tb σ H1 fun y H2 => r x y H2 Q) : tOp r ta tb σ H Q := q
theorem st_un {r : V → Hp → VK → Prop} (q : ta σ H fun x H1 => r x H1 Q) : tUn r ta σ H Q := q
theorem st_nil {Q : List V → Hp → Prop} (q : Q [] H) : tNil σ H Q := q
theorem st_cons {Q : List V → Hp → Prop} (q : ta σ H fun x H1 => tr σ H1 fun xs H2 => Q (x :: xs) H2) : tCons ta tr σ H Q := q
theorem st_cb {r : List V → Hp → VK → Prop} (q : tr σ H fun vs H1 => r vs H1 Q) : tCB r tr σ H Q := q
theorem st_call {sp : Sp} {dvs : List V} {E : XK} (q : tr σ H fun vs H1 => sp (vs ++ dvs) H1 Q E) : tCall sp dvs E tr σ H Q := q
theorem st_test {Q : Bool → Hp → Prop} (q : te σ H fun x H1 => ∃ k, x = .bl k ∧ Q k H1) : tTest te σ H Q := q
theorem st_B {Q : Bool → Hp → Prop} (q : te σ H fun x H1 => ∃ k, x = .bl k ∧ Q k H1) : tB te σ H Q := q
theorem st_bl {b : Bool} {Q : Bool → Prop} (q : Q b) : ∃ k, V.bl b = .bl k ∧ Q k := ⟨b, rfl, q⟩
theorem st_and {Q : Bool → Hp → Prop} (q : t σ H fun c H1 => if c = true then u σ H1 Q else Q false H1) : tAnd t u σ H Q := q
theorem st_or {Q : Bool → Hp → Prop} (q : t σ H fun c H1 => if c = true then Q true H1 else u σ H1 Q) : tOr t u σ H Q := q
theorem st_not {Q : Bool → Hp → Prop} (q : t σ H fun c H1 => Q (!c) H1) : tNot t σ H Q := q
theorem st_andV (q : ta σ H fun x H1 => ∃ c, x = .bl c ∧ if c = true then tb σ H1 Q else Q (.bl false) H1) : tAndV ta tb σ H Q := q
theorem st_orV (q : ta σ H fun x H1 => ∃ c, x = .bl c ∧ if c = true then Q (.bl true) H1 else tb σ H1 Q) : tOrV ta tb σ H Q := q
theorem st_notV (q : ta σ H fun x H1 => ∃ c, x = .bl c ∧ Q (.bl (!c)) H1) : tNotV ta σ H Q := q
theorem st_ifE (q : t σ H fun c H1 => if c = true then ta σ H1 Q else tb σ H1 Q) : tIf t ta tb σ H Q := q
theorem st_chain {r r' : R2} (q : ta σ H fun x H1 => tb σ H1 fun y H2 => r x y H2 fun z H3 => ∃ k, z = .bl k ∧ if k = true then tc σ H3 fun w H4 => r' y w H4 Q else Q (.bl false) H3) : tChain r r' ta tb tc σ H Q := q
theorem st_part {Q : Option Int → Hp → Prop} (q : te σ H fun x H1 => ∃ i, x = .int i ∧ Q (some i) H1) : tPart te σ H Q := q
theorem st_int {i : Int} {Q : Int → Prop} (q : Q i) : ∃ k, V.int i = .int k ∧ Q k := ⟨i, rfl, q⟩
theorem st_nopart {Q : Option Int → Hp → Prop} (q : Q none H) : tNoPart σ H Q := q
theorem st_sl {r : V → Option Int → Option Int → Hp → VK → Prop} {tl th : TO} (q : te σ H fun x H1 => tl σ H1 fun l H2 => th σ H2 fun u H3 => r x l u H3 Q) : tSl r te tl th σ H Q := q
-- statements
theorem st_seq (q : ts { D with nx := tw D } σ H) : tSeq ts tw D σ H := q
theorem st_asg {g : TG} (q : te σ H fun x H1 => g x σ H1 D.nx) : tAsg te g D σ H := q
theorem st_name {i : Nat} {Q : L2.St → Hp → Prop} (q : Q (σ.set i (some v)) H) : gName i v σ H Q := q
theorem st_ret (q : te σ H D.rt) : tRet te D σ H := q
theorem st_if (q : t σ H fun b H1 => if b = true then ts D σ H1 else tw D σ H1) : tIfS t ts tw D σ H := q
theorem st_next (q : D.nx σ H) : tNext D σ H := q
theorem st_drop (q : te σ H fun _ H1 => D.nx σ H1) : tDrop te D σ H := q
theorem st_nx {f : L2.St → Hp → Prop} {r : VK} {b c : L2.St → Hp → Prop} (q : f σ H) : Ends.nx ⟨f, r, b, c⟩ σ H := q
theorem st_rt {f : L2.St → Hp → Prop} {r : VK} {b c : L2.St → Hp → Prop} (q : r v H) : Ends.rt ⟨f, r, b, c⟩ v H := q
theorem st_ct {f : L2.St → Hp → Prop} {r : VK} {b c : L2.St → Hp → Prop} (q : c σ H) : Ends.ct ⟨f, r, b, c⟩ σ H := q
theorem st_bk {f : L2.St → Hp → Prop} {r : VK} {b c : L2.St → Hp → Prop} (q : b σ H) : Ends.bk ⟨f, r, b, c⟩ σ H := q
theorem st_gsub {to ti : TE} {w : TSet} {Q : L2.St → Hp → Prop} (q : to σ H fun o H1 => ti σ H1 fun i H2 => w o i v H2 fun H3 => Q σ H3) : gSub to ti w v σ H Q := q
theorem st_gcons {g : TG} {gs : TGs} {r : List V} {Q : L2.St → Hp → Prop} (q : g v σ H fun σ' H' => gs r σ' H' Q) : gCons g gs (v :: r) σ H Q := ⟨v, r, rfl, q⟩
theorem st_gnil {Q : L2.St → Hp → Prop} (q : Q σ H) : gNil [] σ H Q := ⟨rfl, q⟩
theorem st_gtupR {n : Nat} {gs : TGs} {p : Addr} {xs : List V} {Q : L2.St → Hp → Prop} (h : H p = some (.tup xs)) (l : xs.length = n) (q : gs xs σ H Q) : gTup K n gs (.ref p) σ H Q := ⟨p, xs, rfl, .inl (.inl h), l, q⟩
theorem st_setR {p : Addr} {xs : List V} {j : Nat} {k : Int} {Q : Hp → Prop} (h : H p = some (.lst xs)) (e : ixN xs.length k = some j) (q : Q (L2.upd H p (.lst (xs.set j v)))) : rSetL (.ref p) (.int k) v H Q := ⟨p, xs, k, j, rfl, rfl, h, e, q⟩
theorem st_parN {i j : Nat} {ta : TA} (q : ta σ H fun vs H1 => ∃ v w, vs = [v, w] ∧ D.nx ((σ.set i (some v)).set j (some w)) H1) : tPar i j ta D σ H := q
theorem st_two {a b : V} {Q : V → V → Prop} (q : Q a b) : ∃ v w, [a, b] = [v, w] ∧ Q v w := ⟨a, b, rfl, q⟩
-- operators
theorem st_I0 {g : Int → Int → V} {i j : Int} (q : Q (g i j) H) : rI0 g (.int i) (.int j) H Q := ⟨i, j, rfl, rfl, q⟩
theorem st_I {C : Int → Int → Prop} {g : Int → Int → V} {i j : Int} (c : C i j) (q : Q (g i j) H) : rI C g (.int i) (.int j) H Q := ⟨i, j, rfl, rfl, c, q⟩
theorem st_neg {g : Int → V} {i : Int} (q : Q (g i) H) : rU g (.int i) H Q := ⟨i, rfl, q⟩
theorem st_addI {i j : Int} (q : Q (.int (i + j)) H) : rAdd K (.int i) (.int j) H Q := .inl ⟨i, j, rfl, rfl, q⟩
theorem st_addS {i j : Str} (z : i.length + j.length ≤ sizeLine) (q : Q (.str (i ++ j)) H) : rAdd K (.str i) (.str j) H Q := .inr (.inl ⟨i, j, rfl, rfl, z, q⟩)
theorem st_mulI {i j : Int} (c : CMul i j) (q : Q (.int (i * j)) H) : rMul (.int i) (.int j) H Q := .inl ⟨i, j, rfl, rfl, c, q⟩
theorem st_eqI {i j : Int} (q : Q (.bl (decide (i = j))) H) : rEqU K (.int i) (.int j) H Q := .inl ⟨rfl, by
  have e : decide (V.int i = V.int j) = decide (i = j) := by simp
  rw [e]
  exact q⟩
theorem st_neI {i j : Int} (q : Q (.bl (!decide (i = j))) H) : rNeU K (.int i) (.int j) H Q := .inl ⟨rfl, by
  have e : decide (V.int i = V.int j) = decide (i = j) := by simp
  rw [e]
  exact q⟩
theorem st_eqS {i j : Str} (q : Q (.bl (decide (i = j))) H) : rEqU K (.str i) (.str j) H Q := .inl ⟨rfl, by
  have e : decide (V.str i = V.str j) = decide (i = j) := by simp
  rw [e]
  exact q⟩
theorem st_neS {i j : Str} (q : Q (.bl (!decide (i = j))) H) : rNeU K (.str i) (.str j) H Q := .inl ⟨rfl, by
  have e : decide (V.str i = V.str j) = decide (i = j) := by simp
  rw [e]
  exact q⟩
theorem st_lenS {z : Str} (l : z.length ≤ sizeLine) (q : Q (.int z.length) H) : rLenU K [.str z] H Q := ⟨.str z, _, rfl, ⟨l, rfl⟩, q⟩
theorem st_abs {i : Int} (q : Q (.int (if i < 0 then -i else i)) H) : rAbs [.int i] H Q := ⟨i, rfl, q⟩
theorem st_max {i j : Int} (q : Q (.int (if j > i then j else i)) H) : rMax [.int i, .int j] H Q := ⟨i, j, rfl, q⟩
theorem st_min {i j : Int} (q : Q (.int (if j < i then j else i)) H) : rMin [.int i, .int j] H Q := ⟨i, j, rfl, q⟩
theorem st_intB {b : Bool} (q : Q (.int (if b then 1 else 0)) H) : rInt [.bl b] H Q := .inr ⟨b, rfl, q⟩
theorem st_strS {a : Str} (q : Q (.str a) H) : rStr [.str a] H Q := .inl ⟨a, rfl, q⟩
theorem st_strI {i : Int} (z : i.natAbs.log2 < 1920) (q : Q (.str (toString i)) H) : rStr [.int i] H Q := .inr ⟨i, rfl, z, q⟩
theorem st_inC {c : Nat} {z : Str} (q : Q (.bl (decide (c ∈ z.cps.toList))) H) : rInU K (.str ⟨#[c]⟩) (.str z) H Q := .inr ⟨c, z, rfl, rfl, q⟩
theorem st_inT {a : Addr} {ss : List Str} {d : PyData} (s : SqL K H a (ss.map V.str) ∨ SqT K H a (ss.map V.str)) (h : Dn K (hid S H) x d) (q : Q (.bl (ss.any fun z => isTxt z d)) H) : rInU K x (.ref a) H Q := .inl ⟨a, ss, d, rfl, s, h.up, q⟩
theorem st_notInT {a : Addr} {ss : List Str} {d : PyData} (s : SqL K H a (ss.map V.str) ∨ SqT K H a (ss.map V.str)) (h : Dn K (hid S H) x d) (q : Q (.bl (!ss.any fun z => isTxt z d)) H) : rNotInU K x (.ref a) H Q := ⟨a, ss, d, rfl, s, h.up, q⟩
theorem st_isi {d : PyData} {T : String} (h : Dn K (hid S H) x d) (m : T ∈ ["int", "bool", "str", "list", "tuple", "dict"]) (q : Q (.bl (tyIs T d)) H) : rIsiD K [x, .ty T] H Q := ⟨x, d, T, rfl, h.up, m, q⟩
theorem st_repr {d : PyData} (h : Dn K (hid S H) x d) (h1 : d.showable = true) (h2 : d.depth ≤ 60) (h3 : d.shown.length ≤ sizeLine) (q : Q (.str d.shown) H) : rRepr K [x] H Q := ⟨x, d, rfl, h.up, h1, h2, h3, q⟩
end

/-! ### new objects -/
def NewT (Q : VK) (xs : List V) (H : Hp) : Prop := xs.length ≤ sizeLine ∧ ∀ p, H p = none → Q (.ref p) (upd H p (.tup xs))
def NewL (Q : VK) (xs : List V) (H : Hp) : Prop := xs.length ≤ sizeLine ∧ ∀ p, H p = none → Q (.ref p) (upd H p (.lst xs))
theorem Live.wr {S : List Addr} {H : Hp} {p : Addr} {o : HO} (l : Live S H) : Live S (upd H p o) := fun a m z => by
  by_cases e : a = p
  · subst e
    rw [upd_same] at z
    cases z
  · rw [upd_ne e] at z
    exact l a m z
section
variable {K : PySem.W.Frag} {S : List Addr} {σ : L2.St} {H : Hp} {Q : VK} {tr : TA} {vs : List V} {ds : List PyData}
theorem st_tup (q : tr σ H (NewT Q)) : tTup tr σ H Q := q
theorem st_lst (q : tr σ H (NewL Q)) : tLst tr σ H Q := q
theorem dn_newT {p : Addr} (l : Live S H) (n : H p = none) (h : DnAll K (hid S H) vs ds) : Dn K (hid S (upd H p (.tup vs))) (.ref p) (.tuple ds) :=
  .tup (.inl (.inl (hid_at (l.new n) upd_same))) (DnAll.mono (Rk.of (same_new n)) h)
theorem dn_newL {p : Addr} (l : Live S H) (n : H p = none) (h : DnAll K (hid S H) vs ds) : Dn K (hid S (upd H p (.lst vs))) (.ref p) (.list ds) :=
  .lst (.inl (.inl (hid_at (l.new n) upd_same))) (DnAll.mono (Rk.of (same_new n)) h)
theorem st_newT (l : Live S H) (h : DnAll K (hid S H) vs ds) (z : vs.length ≤ 100000) (q : ∀ p H2, Same H H2 → Live S H2 → Dn K (hid S H2) (.ref p) (.tuple ds) → Q (.ref p) H2) : NewT Q vs H :=
  ⟨Nat.le_trans z (by decide), fun p n => q p _ (same_new n) l.wr (dn_newT l n h)⟩
theorem st_newL (l : Live S H) (h : DnAll K (hid S H) vs ds) (z : vs.length ≤ 100000) (q : ∀ p H2, Same H H2 → Live S H2 → Dn K (hid S H2) (.ref p) (.list ds) → Q (.ref p) H2) : NewL Q vs H :=
  ⟨Nat.le_trans z (by decide), fun p n => q p _ (same_new n) l.wr (dn_newL l n h)⟩
/-- raw: a list that will be changed -/
theorem st_rawL (z : vs.length ≤ 100000) (q : ∀ p H2, H p = none → Same H H2 → H2 p = some (.lst vs) → Q (.ref p) H2) : NewL Q vs H :=
  ⟨Nat.le_trans z (by decide), fun p n => q p _ n (same_new n) upd_same⟩
theorem st_rawT (z : vs.length ≤ 100000) (q : ∀ p H2, H p = none → Same H H2 → H2 p = some (.tup vs) → Q (.ref p) H2) : NewT Q vs H :=
  ⟨Nat.le_trans z (by decide), fun p n => q p _ n (same_new n) upd_same⟩
end

/-! ### data in hand -/
section
variable {K : PySem.W.Frag} {S : List Addr} {H : Hp} {v : V} {a : Addr} {ds es : List PyData}
theorem Dn.intv {k : Int} (h : Dn K H v (.int k)) : v = .int k := by cases h; rfl
theorem Dn.strv {x : Str} (h : Dn K H v (.str x)) : v = .str x := by cases h; rfl
theorem Dn.blv {b : Bool} (h : Dn K H v (.bool b)) : v = .bl b := by cases h; rfl
theorem Dn.nonv (h : Dn K H v .none) : v = .non := by cases h; rfl
theorem Dn.listv (h : Dn K H v (.list ds)) : ∃ a vs, v = .ref a ∧ SqL K H a vs ∧ DnAll K H vs ds := by
  cases h with
  | lst h1 h2 => exact ⟨_, _, rfl, h1, h2⟩
theorem Dn.tupv (h : Dn K H v (.tuple ds)) : ∃ a vs, v = .ref a ∧ SqT K H a vs ∧ DnAll K H vs ds := by
  cases h with
  | tup h1 h2 => exact ⟨_, _, rfl, h1, h2⟩
theorem sqL_up {vs : List V} (h : SqL K (hid S H) a vs) : SqL K H a vs := Same.seq hid_le h
theorem sqT_up {vs : List V} (h : SqT K (hid S H) a vs) : SqT K H a vs := by
  rcases h with (h | ⟨o, h⟩) | h
  · exact .inl (.inl (hid_le _ _ h))
  · exact .inl (.inr ⟨o, hid_le _ _ h⟩)
  · exact .inr h
theorem DnAll.strsv : ∀ {xs : List Str} {vs : List V}, DnAll K H vs (xs.map PyData.str) → vs = xs.map V.str
  | [], _, .nil => rfl
  | x :: xs, _, .cons h t => by rw [Dn.strv h, DnAll.strsv t]; rfl
theorem DnAll.intsv : ∀ {xs : List Int} {vs : List V}, DnAll K H vs (xs.map PyData.int) → vs = xs.map V.int
  | [], _, .nil => rfl
  | x :: xs, _, .cons h t => by rw [Dn.intv h, DnAll.intsv t]; rfl
theorem DnAll.blsv : ∀ {xs : List Bool} {vs : List V}, DnAll K H vs (xs.map PyData.bool) → vs = xs.map V.bl
  | [], _, .nil => rfl
  | x :: xs, _, .cons h t => by rw [Dn.blv h, DnAll.blsv t]; rfl
variable {Q : VK}
theorem st_lenL (h : Dn K (hid S H) v (.list ds)) (q : Q (.int ds.length) H) : rLenU K [v] H Q := by
  obtain ⟨a, vs, rfl, h1, h2⟩ := h.listv
  exact ⟨_, vs.length, rfl, .inl ⟨vs, sqL_up h1, rfl⟩, by rw [h2.length]; exact q⟩
theorem st_lenT (h : Dn K (hid S H) v (.tuple ds)) (q : Q (.int ds.length) H) : rLenU K [v] H Q := by
  obtain ⟨a, vs, rfl, h1, h2⟩ := h.tupv
  exact ⟨_, vs.length, rfl, .inr ⟨vs, sqT_up h1, rfl⟩, by rw [h2.length]; exact q⟩
/-- a sequence's item at a place that is there -/
theorem atI_of {α : Type} {xs : List α} {i : Int} {x : α} (h0 : 0 ≤ i) (h : xs[i.toNat]? = some x) : atI xs i = some x := by
  obtain ⟨n, rfl⟩ := Int.eq_ofNat_of_zero_le h0
  exact atI_nat h
theorem st_ixL {i : Int} (h : Dn K (hid S H) v (.list ds)) (h0 : 0 ≤ i) (hi : i < ds.length) (q : ∀ w d, ds[i.toNat]? = some d → Dn K (hid S H) w d → Q w H) : rIx K v (.int i) H Q := by
  obtain ⟨a, vs, rfl, h1, h2⟩ := h.listv
  have hd : ds[i.toNat]? = some ds[i.toNat] := List.getElem?_eq_getElem (by omega)
  obtain ⟨w, e, hw⟩ := h2.getD hd
  exact .inl ⟨a, vs, i, w, rfl, rfl, sqL_up h1, atI_of h0 e, q w _ hd hw⟩
theorem st_ixT {i : Int} (h : Dn K (hid S H) v (.tuple ds)) (h0 : 0 ≤ i) (hi : i < ds.length) (q : ∀ w d, ds[i.toNat]? = some d → Dn K (hid S H) w d → Q w H) : rIx K v (.int i) H Q := by
  obtain ⟨a, vs, rfl, h1, h2⟩ := h.tupv
  have hd : ds[i.toNat]? = some ds[i.toNat] := List.getElem?_eq_getElem (by omega)
  obtain ⟨w, e, hw⟩ := h2.getD hd
  exact .inr (.inl ⟨a, vs, i, w, rfl, rfl, sqT_up h1, atI_of h0 e, q w _ hd hw⟩)
theorem st_ixS {z : Str} {i : Int} (hz : z.length ≤ sizeLine) (h0 : 0 ≤ i) (hi : i < z.length) (q : ∀ c, c ∈ z.cps.toList → Q (.str ⟨#[c]⟩) H) : rIx K (.str z) (.int i) H Q := by
  have hl : z.cps.toList.length = z.length := by simp [Str.length]
  have hd : z.cps.toList[i.toNat]? = some z.cps.toList[i.toNat] := List.getElem?_eq_getElem (by omega)
  exact .inr (.inr ⟨z, i, _, rfl, rfl, hz, atI_of h0 hd, q _ (List.getElem_mem _)⟩)
/-- an item of a raw list -/
theorem st_ixR {p : Addr} {vs : List V} {i : Nat} {w : V} (h : H p = some (.lst vs)) (e : vs[i]? = some w) (q : Q w H) : rIx K (.ref p) (.int (i : Int)) H Q :=
  .inl ⟨p, vs, _, w, rfl, rfl, SqL.of h, atI_nat e, q⟩
end

section
variable {K : PySem.W.Frag} {S : List Addr} {H : Hp} {v : V} {a : Addr} {ds es : List PyData}
theorem DnAll.two {d e : PyData} {vs : List V} (h : DnAll K H vs [d, e]) : ∃ v w, vs = [v, w] ∧ Dn K H v d ∧ Dn K H w e := by
  cases h with
  | cons h1 h =>
    cases h with
    | cons h2 h =>
      cases h
      exact ⟨_, _, rfl, h1, h2⟩
theorem DnAll.three {d e f : PyData} {vs : List V} (h : DnAll K H vs [d, e, f]) : ∃ v w x, vs = [v, w, x] ∧ Dn K H v d ∧ Dn K H w e ∧ Dn K H x f := by
  cases h with
  | cons h1 h =>
    obtain ⟨v, w, rfl, h2, h3⟩ := h.two
    exact ⟨_, _, _, rfl, h1, h2, h3⟩
/-- a written place of a tuple -/
theorem st_ixT0 {n : Nat} {d : PyData} {Q : VK} (h : Dn K (hid S H) v (.tuple ds)) (e : ds[n]? = some d) (q : ∀ w, Dn K (hid S H) w d → Q w H) : rIx K v (.int (n : Int)) H Q := by
  obtain ⟨a, vs, rfl, h1, h2⟩ := h.tupv
  obtain ⟨w, e2, hw⟩ := h2.getD e
  exact .inr (.inl ⟨a, vs, _, w, rfl, rfl, sqT_up h1, atI_nat e2, q w hw⟩)
theorem st_ixL0 {n : Nat} {d : PyData} {Q : VK} (h : Dn K (hid S H) v (.list ds)) (e : ds[n]? = some d) (q : ∀ w, Dn K (hid S H) w d → Q w H) : rIx K v (.int (n : Int)) H Q := by
  obtain ⟨a, vs, rfl, h1, h2⟩ := h.listv
  obtain ⟨w, e2, hw⟩ := h2.getD e
  exact .inl ⟨a, vs, _, w, rfl, rfl, sqL_up h1, atI_nat e2, q w hw⟩
end
theorem ty_str {d : PyData} (h : tyIs "str" d = true) : ∃ x, d = .str x := by
  cases d with
  | str x => exact ⟨x, rfl⟩
  | _ => simp [tyIs] at h
theorem ty_tup {d : PyData} (h : tyIs "tuple" d = true) : ∃ ds, d = .tuple ds := by
  cases d with
  | tuple ds => exact ⟨ds, rfl⟩
  | _ => simp [tyIs] at h
theorem ty_list {d : PyData} (h : tyIs "list" d = true) : ∃ ds, d = .list ds := by
  cases d with
  | list ds => exact ⟨ds, rfl⟩
  | _ => simp [tyIs] at h
/-! texts within a datum are short -/
mutual
def szD : PyData → Bool
  | .str x => decide (x.length ≤ 1000)
  | .list xs => szAll xs
  | .tuple xs => szAll xs
  | _ => true
def szAll : List PyData → Bool
  | [] => true
  | x :: xs => szD x && szAll xs
end
theorem szAll_mem : ∀ {xs : List PyData} {x : PyData}, szAll xs = true → x ∈ xs → szD x = true
  | [], _, _, m => nomatch m
  | y :: ys, x, h, m => by
    have h : (szD y && szAll ys) = true := by simpa only [szAll] using h
    rw [Bool.and_eq_true] at h
    rcases List.mem_cons.mp m with e | m
    · rw [e]
      exact h.1
    · exact szAll_mem h.2 m
theorem szAll_of : ∀ {xs : List PyData}, (∀ x ∈ xs, szD x = true) → szAll xs = true
  | [], _ => by simp only [szAll]
  | y :: ys, h => by
    simp only [szAll, Bool.and_eq_true]
    exact ⟨h y List.mem_cons_self, szAll_of fun x m => h x (List.mem_cons_of_mem _ m)⟩
/-! ### the pot -/
def Pot (p : Addr) (H : Hp) : Prop := ∃ a b : Int, H p = some (.lst [.int a, .int b]) ∧ 0 ≤ a ∧ 0 ≤ b ∧ b < 4294967296
theorem Pot.same {p : Addr} {H H' : Hp} (h : Pot p H) (s : Same H H') : Pot p H' := by
  obtain ⟨a, b, e, r⟩ := h
  exact ⟨a, b, s _ _ e, r⟩
/-- S is hidden, and the pot is in it -/
structure Stt (S : List Addr) (p : Addr) (H : Hp) : Prop where
  mem : p ∈ S
  live : Live S H
  pot : Pot p H
theorem Stt.same {S : List Addr} {p : Addr} {H H' : Hp} (h : Stt S p H) (s : Same H H') : Stt S p H' := ⟨h.mem, h.live.same s, h.pot.same s⟩
/-- behind a draw: nothing but the pot is changed -/
theorem Stt.draw {S : List Addr} {p : Addr} {H H' : Hp} (h : Stt S p H) (r : Rk [p] H H') (q : Pot p H') : Stt S p H' := by
  refine ⟨h.mem, fun a m z => ?_, q⟩
  by_cases e : a = p
  · subst e
    obtain ⟨a, b, e, _⟩ := q
    rw [e] at z
    cases z
  · cases k : H a with
    | none => exact h.live a m k
    | some o =>
      have k2 := r.at (by simpa using e) k
      rw [z] at k2
      cases k2
theorem Stt.rk {S : List Addr} {p : Addr} {H H0 H' : Hp} (h : Stt S p H0) (r : Rk [p] H H') : Rk S H H' := r.sub fun a m => by
  rcases List.mem_cons.mp m with e | m
  · rw [e]
    exact h.mem
  · cases m
theorem dn_same {K : PySem.W.Frag} {S : List Addr} {H H' : Hp} {v : V} {d : PyData} (s : Same H H') (h : Dn K (hid S H) v d) : Dn K (hid S H') v d := Dn.mono (Rk.of s) h
theorem dn_draw {K : PySem.W.Frag} {S : List Addr} {p : Addr} {H H' : Hp} {v : V} {d : PyData} (r : Rk [p] H H') (t : Stt S p H') (h : Dn K (hid S H) v d) : Dn K (hid S H') v d := Dn.mono (t.rk r) h
end Fg
/-! Fge: a def of the text as its callers see it; names of the module; built-ins; the head's Hook. -/
namespace Fg
open PySem PySem.Spec PyProof.Rows L2
/-! ### a def of the module's top, by its name -/
/-- fd is the record at f -/
def HasFn (K : PySem.W.Frag) (f : Addr) (fd : FuncData) : Prop := ∃ oc od osl, K.lookup f = some ⟨oc, od, .func fd, osl⟩
theorem hasFn_of {K : PySem.W.Frag} {x qual : Str} {ar : Arguments} {bd : List Stmt} {sc : Scope} {dvs : List V} {kws : List (Str × V)} {f : Addr} {fd : FuncData} (F : FunD K x qual ar bd sc dvs kws f fd) : HasFn K f fd := by
  obtain ⟨oc, od, _, _, _, _, _, _, _, osl, _, lk, _⟩ := F.ex
  exact ⟨oc, od, osl, lk⟩
theorem HasFn.one {K : PySem.W.Frag} {f : Addr} {fd fe : FuncData} (h : HasFn K f fd) (k : HasFn K f fe) : fd = fe := by
  obtain ⟨a, b, c, h⟩ := h
  obtain ⟨a2, b2, c2, k⟩ := k
  rw [h] at k
  cases k
  rfl
structure Cal (P : Program) (w : World) (K : PySem.W.Frag) (mg : Str → Option Value) (base : Heap) (x : Str) (k : Nat) (ps : List Str) (sp : Sp) : Prop where
  fn : ∃ fd, FnOk P w K mg base CX0 k (He.ga K x) fd ps sp ∧ Binds K fd ps [] ∧ HasFn K (He.ga K x) fd
  kp : PySem.W.keepIn K (.ref (He.ga K x)) = true
  gl : mg x = some (.ref (He.ga K x))
structure CalG (P : Program) (w : World) (K : PySem.W.Frag) (mg : Str → Option Value) (base : Heap) (x : Str) (k : Nat) (ps : List Str) (sp : Sp) : Prop where
  fn : ∃ fd, FnG P w K mg base CX0 k (He.ga K x) fd ps sp ∧ Binds K fd ps [] ∧ HasFn K (He.ga K x) fd
  kp : PySem.W.keepIn K (.ref (He.ga K x)) = true
  gl : mg x = some (.ref (He.ga K x))
abbrev FnP (K : PySem.W.Frag) (x : Str) (st : Stmt) : Prop := ∃ fd, FunD K x x (defArgs st) (defBody st) (defScope st) [] [] (He.ga K x) fd
section
variable {P : Program} {w : World} {K : PySem.W.Frag} {mg : Str → Option Value} {base : Heap}
theorem Cal.of {x : Str} {st : Stmt} {N ps : List Str} {k : Nat} {sp : Sp} (F : FnP K x st) (g : mg x = some (.ref (He.ga K x))) (S : FnScope N ps (defScope st)) (len : ∀ vs H Q E, sp vs H Q E → vs.length = ps.length)
    (bd : ∀ (kV doc pm : Value) (an : Option Addr) (cdv ct : Value) (us : List Value), us.length = ps.length → bindArgs (PySem.W.fnOf x x (defArgs st) (defBody st) (defScope st) .none kV doc pm an cdv ct) ⟨us, []⟩ = pure (ps.zip us))
    (hb : ∀ (cdv : Value) (A : Around) (out : List Env) (s : Shared) (H : Hp) (vs : List V) (Q : VK) (E : XK), Room k (A.deeper (envOfC x (defScope st) s.heap.objs.size (He.ga K x) cdv)) → sp vs H Q E →
      ∃ t, PSs (cxOf CX0 P w K mg base N x (defScope st) (He.ga K x) cdv A out s H E).nox (defBody st) t ∧ t { nx := fun _ H' => Q .non H', rt := Q } (start N vs) H) : Cal P w K mg base x (k + 1) ps sp := by
  obtain ⟨fd, F⟩ := F
  refine ⟨⟨fd, F.ok S len fun cdv A out s H vs Q E hr h => ?_, ?_, hasFn_of F⟩, F.kp, g⟩
  · obtain ⟨t, h1, h2⟩ := hb cdv A out s H vs Q E hr h
    exact ⟨t, h1.nox, h2⟩
  · exact F.bindsN bd
theorem CalG.of {x : Str} {st : Stmt} {N ps : List Str} {k : Nat} {sp : Sp} (F : FnP K x st) (g : mg x = some (.ref (He.ga K x))) (S : FnScope N ps (defScope st)) (len : ∀ vs H Q E, sp vs H Q E → vs.length = ps.length)
    (bd : ∀ (kV doc pm : Value) (an : Option Addr) (cdv ct : Value) (us : List Value), us.length = ps.length → bindArgs (PySem.W.fnOf x x (defArgs st) (defBody st) (defScope st) .none kV doc pm an cdv ct) ⟨us, []⟩ = pure (ps.zip us))
    (hb : ∀ (cdv : Value) (A : Around) (out : List Env) (s : Shared) (H : Hp) (vs : List V) (Q : VK) (E : XK), Room k (A.deeper (envOfC x (defScope st) s.heap.objs.size (He.ga K x) cdv)) → A.guards = some [] → sp vs H Q E →
      ∃ t, PSs (cxOf CX0 P w K mg base N x (defScope st) (He.ga K x) cdv A out s H E).nox (defBody st) t ∧ t { nx := fun _ H' => Q .non H', rt := Q } (start N vs) H) : CalG P w K mg base x (k + 1) ps sp := by
  obtain ⟨fd, F⟩ := F
  refine ⟨⟨fd, F.okG S len fun cdv A out s H vs Q E hr hg h => ?_, ?_, hasFn_of F⟩, F.kp, g⟩
  · obtain ⟨t, h1, h2⟩ := hb cdv A out s H vs Q E hr hg h
    exact ⟨t, h1.nox, h2⟩
  · exact F.bindsN bd
end
theorem CalG.ofCal {P : Program} {w : World} {K : PySem.W.Frag} {mg : Str → Option Value} {base : Heap} {x : Str} {k : Nat} {ps : List Str} {sp : Sp} (C : Cal P w K mg base x k ps sp) : CalG P w K mg base x k ps sp := by
  obtain ⟨⟨fd, F, b, l⟩, kp, gl⟩ := C
  exact ⟨⟨fd, FnG.of F, b, l⟩, kp, gl⟩
section
variable {X : Cx} {j k : Nat} {ps : List Str} {sp : Sp} {x : Str} {p pos : Pos} {e : Expr} {es : List Expr} {t : TA}
theorem pe_cal (C : Cal X.prog X.w X.K X.mg X.base x k ps sp) (hr : Room j X.A) (ha : PA X (e :: es) t) (hk : k ≤ j := by decide) (hg : Gl X x := by rfl) (hdb : (x == ("__debug__" : Str)) = false := by decide)
    (he : starEach (e :: es) X.env = (false, eval e X.env) :: starEach es X.env := by rfl) (hpl : (backTo pos (starEach es X.env)).any (·.1) = false := by rfl) : PE X (.Call (.Name x p) (e :: es) [] pos) (tCall sp [] E0 t) := by
  obtain ⟨⟨fd, F, b, _⟩, kp, gl⟩ := C
  exact pe_call F (hr.mono hk) hg gl kp b .nil pass0 ha hdb he hpl
theorem pe_calG (C : CalG X.prog X.w X.K X.mg X.base x k ps sp) (hr : Room j X.A) (gd : X.A.guards = some []) (ha : PA X (e :: es) t) (hk : k ≤ j := by decide) (hg : Gl X x := by rfl) (hdb : (x == ("__debug__" : Str)) = false := by decide)
    (he : starEach (e :: es) X.env = (false, eval e X.env) :: starEach es X.env := by rfl) (hpl : (backTo pos (starEach es X.env)).any (·.1) = false := by rfl) : PE X (.Call (.Name x p) (e :: es) [] pos) (tCall sp [] E0 t) := by
  obtain ⟨⟨fd, F, b, _⟩, kp, gl⟩ := C
  exact pe_callG F (hr.mono hk) gd hg gl kp b pass0 ha hdb he hpl
/-- a module's constant -/
theorem pe_gS {z : Str} (h : ∃ t, X.mg x = some (.str z t)) (hg : Gl X x := by rfl) (hd : (x == ("__debug__" : Str)) = false := by decide) : PE X (.Name x pos) (tC (.str z)) := by
  obtain ⟨t, h⟩ := h
  exact pe_glob hg h ⟨t, rfl⟩ hd
theorem pe_gI {z : Int} (h : ∃ t, X.mg x = some (.int z t)) (hg : Gl X x := by rfl) (hd : (x == ("__debug__" : Str)) = false := by decide) : PE X (.Name x pos) (tC (.int z)) := by
  obtain ⟨t, h⟩ := h
  exact pe_glob hg h ⟨t, rfl⟩ hd
theorem pe_gR {a : Addr} (h : X.mg x = some (.ref a)) (hg : Gl X x := by rfl) (hd : (x == ("__debug__" : Str)) = false := by decide) : PE X (.Name x pos) (tC (.ref a)) := pe_glob hg h rfl hd
/-- a built-in by its name -/
theorem pe_bB {id : String} {r : List V → Hp → VK → Prop} (hc : CallR X (.builtin id) r) (hm : X.mg x = none) (hv : bootBuiltins x = some (.builtin id)) (ha : PA X (e :: es) t) (hg : Gl X x := by rfl) (hn : x ≠ "__name__" := by decide) (hdb : (x == ("__debug__" : Str)) = false := by decide)
    (he : starEach (e :: es) X.env = (false, eval e X.env) :: starEach es X.env := by rfl) (hpl : (backTo pos (starEach es X.env)).any (·.1) = false := by rfl) : PE X (.Call (.Name x p) (e :: es) [] pos) (tCB r t) :=
  pe_callB hc hg hm hv ha hn hdb he hpl
theorem pe_bT {id : String} {r : List V → Hp → VK → Prop} (hc : CallR X (.type id) r) (hm : X.mg x = none) (hv : bootBuiltins x = some (.type id)) (ha : PA X (e :: es) t) (hg : Gl X x := by rfl) (hn : x ≠ "__name__" := by decide) (hdb : (x == ("__debug__" : Str)) = false := by decide)
    (he : starEach (e :: es) X.env = (false, eval e X.env) :: starEach es X.env := by rfl) (hpl : (backTo pos (starEach es X.env)).any (·.1) = false := by rfl) : PE X (.Call (.Name x p) (e :: es) [] pos) (tCB r t) :=
  pe_callTy hc hg hm hv ha hn hdb he hpl
theorem pe_tyN {id : String} (hm : X.mg x = none) (hv : bootBuiltins x = some (.type id)) (hg : Gl X x := by rfl) (hn : x ≠ "__name__" := by decide) (hd : (x == ("__debug__" : Str)) = false := by decide) : PE X (.Name x pos) (tC (.ty id)) :=
  pe_bltn hg hm hv rfl hn hd
end
theorem bb_len : bootBuiltins "len" = some (.builtin "len") := by decide +kernel
theorem bb_abs : bootBuiltins "abs" = some (.builtin "abs") := by decide +kernel
theorem bb_max : bootBuiltins "max" = some (.builtin "max") := by decide +kernel
theorem bb_min : bootBuiltins "min" = some (.builtin "min") := by decide +kernel
theorem bb_all : bootBuiltins "all" = some (.builtin "all") := by decide +kernel
theorem bb_any : bootBuiltins "any" = some (.builtin "any") := by decide +kernel
theorem bb_sum : bootBuiltins "sum" = some (.builtin "sum") := by decide +kernel
theorem bb_repr : bootBuiltins "repr" = some (.builtin "repr") := by decide +kernel
theorem bb_divmod : bootBuiltins "divmod" = some (.builtin "divmod") := by decide +kernel
theorem bb_isinstance : bootBuiltins "isinstance" = some (.builtin "isinstance") := by decide +kernel
theorem bb_sorted : bootBuiltins "sorted" = some (.builtin "sorted") := by decide +kernel
theorem bb_int : bootBuiltins "int" = some (.type "int") := by decide +kernel
theorem bb_str : bootBuiltins "str" = some (.type "str") := by decide +kernel
theorem bb_bool : bootBuiltins "bool" = some (.type "bool") := by decide +kernel
theorem bb_list : bootBuiltins "list" = some (.type "list") := by decide +kernel
theorem bb_tuple : bootBuiltins "tuple" = some (.type "tuple") := by decide +kernel
theorem bb_dict : bootBuiltins "dict" = some (.type "dict") := by decide +kernel
theorem bb_range : bootBuiltins "range" = some (.type "range") := by decide +kernel
/-! ### slices of three kinds -/
def rSlU (K : PySem.W.Frag) : V → Option Int → Option Int → Hp → VK → Prop := fun x lo hi H Q => rSlL K x lo hi H Q ∨ rSlA K x lo hi H Q ∨ rSlS x lo hi H Q
theorem sl_alt {X : Cx} {r r' : V → Option Int → Option Int → Hp → VK → Prop} (h : SlR X r) (h' : SlR X r') : SlR X (fun x lo hi H Q => r x lo hi H Q ∨ r' x lo hi H Q) := by
  intro pins s σ H x v vl vu lo hi sl Q I rx hs pl pu q
  rcases q with q | q
  · exact h pins s σ H x v vl vu lo hi sl Q I rx hs pl pu q
  · exact h' pins s σ H x v vl vu lo hi sl Q I rx hs pl pu q
theorem sl_U {X : Cx} : SlR X (rSlU X.K) := sl_alt sl_list (sl_alt sl_tupA sl_str)
/-! ### the Hook: as hookD, sys.modules beside it -/
def frS (g : Addr → Option Obj) (n : Nat) : PySem.W.Frag := He.frG g (sysModules :: He.asD g n)
def smB (K : PySem.W.Frag) : Bool := match K.lookup sysModules with
  | some o => decide (o.cls = .type "dict")
  | none => false
theorem smB_ok {K : PySem.W.Frag} (h : smB K = true) : Sm K := by
  unfold smB at h
  cases e : K.lookup sysModules with
  | none =>
    rw [e] at h
    cases h
  | some o =>
    rw [e] at h
    exact ⟨o, e, of_decide_eq_true h⟩
abbrev AlS : Type := Bool × He.AlD
def obsS (ts : PySem.W.Frag → Bool) (fa : List He.Fa) (fn : List He.DefD) (K : PySem.W.Frag) : AlS := (smB K && ts K, He.obsD fa fn K)
def valS (fn : List He.DefD) : AlS := (true, He.valD fn)
def obsSG (ts : PySem.W.Frag → Bool) (n : Nat) (fa : List He.Fa) (fn : List He.DefD) (g : Addr → Option Obj) : AlS := obsS ts fa fn (frS g n)
/-- ts: tables of the module, by tupB, lstB -/
def hookS (ts : PySem.W.Frag → Bool) (n : Nat) (fa : List He.Fa) (fn : List He.DefD) : PySem.W.Hook where
  α := AlS
  obs := fun s => obsSG ts n fa fn s.heap.get?
  val := fun _ => valS fn
  says := fun _ h => ∃ K : PySem.W.Frag, K.In h ∧ (smB K && ts K) = true ∧ He.SaysD fa fn K
  of := fun _ _ e => ⟨_, He.frG_in, congrArg (fun z : AlS => z.1) e, congrArg (fun z : AlS => z.2) e⟩
  keeps := fun _ _ _ ⟨K, hK, c⟩ k => ⟨K, PySem.W.Frag.In.keeps hK k, c⟩
theorem obsSG_eq {ts : PySem.W.Frag → Bool} {n : Nat} {fa : List He.Fa} {fn : List He.DefD} {g : Addr → Option Obj} {s : Shared} (h : ∀ a, g a = s.heap.get? a) : obsSG ts n fa fn g = (hookS ts n fa fn).obs s := by
  have e : g = s.heap.get? := funext h
  rw [e] <;> rfl
end Fg
/-! Fgf: comprehensions by what their elements are; loops that fill a list. -/
namespace Fg
open PySem PySem.Spec PyProof.Rows L2
/-- what a comprehension wants behind its source -/
def NewLc (g : TG) (tt : TT) (te : TE) (vl : List Nat) (σ : L2.St) (Q : VK) : It → Hp → Prop := fun J H1 => ∀ D, H1 D = none → ∃ W : Nat → Nat → Hp → Prop, (∃ m, W 0 m (upd H1 D (.lst []))) ∧ ∀ i m H, W i m H →
  (J.stop i H ∧ Q (.ref D) H) ∨ (J.go i H ∧ ∃ Nx : Hp → Prop, (∀ H', Nx H' → ∃ m', m' < m ∧ W (i + 1) m' H') ∧ ∀ x H', J.yld i H x H' → g x (wipe σ vl) H' fun σ2 H2 => wipe σ2 vl = wipe σ vl ∧ tt σ2 H2 fun b H3 =>
    if b = true then te σ2 H3 fun y H4 => ∃ acc, H4 D = some (.lst acc) ∧ acc.length < sizeLine ∧ Nx (upd H4 D (.lst (acc ++ [y]))) else Nx H3)
section
variable {K : PySem.W.Frag} {S : List Addr} {σ : L2.St} {H : Hp} {Q : VK} {te ts : TE} {g : TG} {tt : TT} {vl : List Nat} {wi : TI} {R : It → Hp → Prop}
theorem st_lc (q : wi σ H (NewLc g tt te vl σ Q)) : tLc wi g tt te vl σ H Q := q
theorem st_rng1 {ta : TA} (q : ta σ H fun vs H1 => ∃ j : Int, vs = [.int j] ∧ -(2 ^ 62) ≤ j ∧ j < 2 ^ 62 ∧ R (Itr 0 j.toNat) H1) : iRng1 ta σ H R := q
theorem st_rngI {j : Int} {R : Int → Prop} (h0 : 0 ≤ j) (h1 : j ≤ 1000000) (q : R j) : ∃ k : Int, [V.int j] = [.int k] ∧ -(2 ^ 62) ≤ k ∧ k < 2 ^ 62 ∧ R k := ⟨j, rfl, by omega, by omega, q⟩
theorem st_itS (q : ts σ H fun v H1 => ∃ x, v = .str x ∧ R (Its x) H1) : iStr ts σ H R := q
theorem st_itSI {x : Str} {R : Str → Prop} (q : R x) : ∃ y, V.str x = .str y ∧ R y := ⟨x, rfl, q⟩
theorem st_itL (q : ts σ H fun x H1 => ∃ a, x = .ref a ∧ (∃ xs, SqL K H1 a xs) ∧ R (Itl K a) H1) : iList K ts σ H R := q
theorem st_itLD {v : V} {ds : List PyData} {R : Addr → Prop} (h : Dn K (hid S H) v (.list ds)) (q : ∀ a, v = .ref a → R a) : ∃ a, v = .ref a ∧ (∃ xs, SqL K H a xs) ∧ R a := by
  obtain ⟨a, vs, rfl, h1, h2⟩ := h.listv
  exact ⟨a, rfl, ⟨vs, sqL_up h1⟩, q a rfl⟩
theorem st_itT (q : ts σ H fun x H1 => ∃ a, x = .ref a ∧ (∃ xs, SqT K H1 a xs) ∧ R (Itt K a) H1) : iTup K ts σ H R := q
/-- each element is a value g i, and nothing that stood is changed -/
theorem lc_fn {J : It} {n : Nat} {G : Hp → Prop} {Y : Nat → Hp → V → Hp → Prop} (w : Walk J n G Y) (f : Nat → V) {j : Nat} (hG : ∀ H', Same H H' → G H') (hn : n ≤ 100000) (hw : ∀ y, wipe ((wipe σ vl).set j (some y)) vl = wipe σ vl)
    (he : ∀ i x H1 H2, i < n → Same H H1 → Y i H1 x H2 → Same H1 H2 ∧ ∀ R : VK, (∀ H3, Same H2 H3 → R (f i) H3) → te ((wipe σ vl).set j (some x)) H2 R)
    (q : ∀ p H2, H p = none → Same H H2 → H2 p = some (.lst ((List.range n).map f)) → Q (.ref p) H2) : NewLc (gName j) tYes te vl σ Q J H := by
  intro D hD
  refine lc_it w (fun i H1 => Same H H1 ∧ H1 D = some (.lst ((List.range i).map f))) ⟨same_new hD, upd_same⟩ (fun i H1 _ p => hG H1 p.1) (fun i x H1 H2 hi p y => ?_) fun H1 p => q D H1 hD p.1 p.2
  obtain ⟨s1, d1⟩ := p
  obtain ⟨s2, k⟩ := he i x H1 H2 hi s1 y
  refine ⟨hw x, k _ fun H3 s3 => ⟨_, s3 _ _ (s2 _ _ d1), ?_, fun b o e => ?_, ?_⟩⟩
  · rw [List.length_map, List.length_range]
    exact Nat.lt_of_lt_of_le (by omega : i < 100001) (by decide)
  · rw [upd_ne (ne_of_none e hD)]
    exact s3 _ _ (s2 _ _ (s1 _ _ e))
  · rw [upd_same, List.range_succ, List.map_append]
    rfl
/-- what was known ahead of the new list, within the comprehension -/
theorem dn_in {p D : Addr} {H1 : Hp} {v : V} {d : PyData} (hp : p ∈ S) (hD : H D = none) (r : Rk [p] H H1) (h : Dn K (hid S H) v d) : Dn K (hid (D :: S) H1) v d := Dn.mono (fun a o e => by
  obtain ⟨m, k⟩ := hid_some e
  have aD : a ≠ D := ne_of_none k hD
  have ap : a ≠ p := fun z => by
    subst z
    exact m hp
  refine hid_at (fun z => ?_) (r.at (by simpa using ap) k)
  rcases List.mem_cons.mp z with z | z
  · exact aD z
  · exact m z) h
/-- each element draws from the pot: what it is, is told by P -/
theorem lc_draw {J : It} {n : Nat} {G : Hp → Prop} {Y : Nat → Hp → V → Hp → Prop} {p : Addr} (st : Stt S p H) (w : Walk J n G Y) (P : Nat → PyData → Prop) {j : Nat} (hG : ∀ H', Rk [p] H H' → G H') (hn : n ≤ 100000) (hw : ∀ y, wipe ((wipe σ vl).set j (some y)) vl = wipe σ vl)
    (he : ∀ D i x H1 H2, H D = none → i < n → Rk [p] H H1 → Stt (D :: S) p H1 → Y i H1 x H2 → Same H1 H2 ∧ ∀ R : VK, (∀ v d H3, Rk [p] H2 H3 → Pot p H3 → Dn K (hid (D :: S) H3) v d → P i d → R v H3) → te ((wipe σ vl).set j (some x)) H2 R)
    (q : ∀ t ds H2, Rk [p] H H2 → Stt S p H2 → ds.length = n → (∀ i d, ds[i]? = some d → P i d) → Dn K (hid S H2) (.ref t) (.list ds) → Q (.ref t) H2) : NewLc (gName j) tYes te vl σ Q J H := by
  intro D hD
  have DS : D ∉ S := st.live.new hD
  have pD : D ≠ p := fun z => DS (z ▸ st.mem)
  have draw : ∀ {H1 : Hp} {o : HO}, Rk [p] H H1 → Pot p H1 → Stt (D :: S) p (upd H1 D o) := fun {H1 o} r k => by
    have s1 := st.draw r k
    refine ⟨List.mem_cons_of_mem _ st.mem, fun a m z => ?_, ?_⟩
    · by_cases e : a = D
      · subst e
        rw [upd_same] at z
        cases z
      · rw [upd_ne e] at z
        exact s1.live a ((List.mem_cons.mp m).resolve_left e) z
    · obtain ⟨a, b, e, c⟩ := k
      exact ⟨a, b, by rw [upd_ne pD.symm]; exact e, c⟩
  refine lc_it w (fun i H1 => ∃ vs ds, H1 D = some (.lst vs) ∧ DnAll K (hid (D :: S) H1) vs ds ∧ ds.length = i ∧ (∀ k d, ds[k]? = some d → P k d) ∧ Rk [p] H H1 ∧ Stt (D :: S) p H1)
    ⟨[], [], upd_same, .nil, rfl, fun k d e => by simp at e, Rk.of (same_new hD), draw (Rk.refl _ _) st.pot⟩ (fun i H1 _ ⟨_, _, _, _, _, _, r, _⟩ => hG H1 r) (fun i x H1 H2 hi pv y => ?_) fun H1 pv => ?_
  · obtain ⟨vs, ds, d1, a1, l1, p1, r1, s1⟩ := pv
    obtain ⟨s2, k⟩ := he D i x H1 H2 hD hi r1 s1 y
    refine ⟨hw x, k _ fun v d H3 r3 k3 dv pd => ?_⟩
    have r13 : Rk [p] H H3 := (r1.trans (Rk.of s2)).trans r3
    have d3 : H3 D = some (.lst vs) := r3.at (by simpa using pD) (s2 _ _ d1)
    refine ⟨vs, d3, ?_, vs ++ [v], ds ++ [d], upd_same, ?_, by rw [List.length_append, l1]; rfl, fun m e he' => ?_, fun b o e => ?_, draw r13 k3⟩
    · rw [a1.length, l1]
      exact Nat.lt_of_lt_of_le (by omega : i < 100001) (by decide)
    · have wr : Rk (D :: S) H3 (upd H3 D (.lst (vs ++ [v]))) := Rk.wr List.mem_cons_self
      have up : Rk (D :: S) H1 H3 := ((Rk.of s2).trans (r3.sub fun a m => by
        rw [List.mem_singleton.mp m]
        exact s1.mem) : Rk (D :: S) H1 H3)
      exact DnAll.append (DnAll.r wr (DnAll.r up a1)) (.cons (Dn.r wr dv) .nil)
    · by_cases hm : m < ds.length
      · rw [List.getElem?_append_left hm] at he'
        exact p1 m e he'
      · rw [List.getElem?_append_right (by omega)] at he'
        have m0 : m - ds.length = 0 := by
          cases hk : m - ds.length with
          | zero => rfl
          | succ z =>
            rw [hk] at he'
            simp at he'
        rw [m0] at he'
        have em : m = i := by omega
        rw [em]
        cases he'
        exact pd
    · obtain ⟨m, k⟩ := hid_some e
      have bD : b ≠ D := ne_of_none k hD
      refine hid_at m ?_
      rw [upd_ne bD]
      exact r13.at m k
  · obtain ⟨vs, ds, d1, a1, l1, p1, r1, s1⟩ := pv
    have s2 : Stt S p H1 := ⟨st.mem, fun a m => s1.live a (List.mem_cons_of_mem _ m), s1.pot⟩
    exact q D ds H1 r1 s2 l1 p1 (.lst (.inl (.inl (hid_at DS d1))) (DnAll.mono (hid_sub fun a m => List.mem_cons_of_mem _ m) a1))
end
end Fg
/-! Fgg: lists in hand, slices, +, *, list(), all, any, join, for; lengths of texts. -/
namespace Fg
open PySem PySem.Spec PyProof.Rows L2
/-! ### a list that is tracked -/
structure Ls (K : PySem.W.Frag) (S : List Addr) (H : Hp) (v : V) (ds : List PyData) : Prop where
  ex : ∃ a vs, v = .ref a ∧ hid S H a = some (.lst vs) ∧ DnAll K (hid S H) vs ds
section
variable {K : PySem.W.Frag} {S : List Addr} {σ : L2.St} {H H' : Hp} {Q : VK} {v w : V} {ds es : List PyData} {vs ws : List V}
theorem Ls.dn (h : Ls K S H v ds) : Dn K (hid S H) v (.list ds) := by
  obtain ⟨a, vs, rfl, h1, h2⟩ := h.ex
  exact .lst (.inl (.inl h1)) h2
theorem Ls.rk (h : Ls K S H v ds) (r : Rk S H H') : Ls K S H' v ds := by
  obtain ⟨a, vs, rfl, h1, h2⟩ := h.ex
  exact ⟨a, vs, rfl, r _ _ h1, DnAll.mono r h2⟩
theorem ls_same (s : Same H H') (h : Ls K S H v ds) : Ls K S H' v ds := h.rk (Rk.of s)
theorem ls_draw {p : Addr} (r : Rk [p] H H') (t : Stt S p H') (h : Ls K S H v ds) : Ls K S H' v ds := h.rk (t.rk r)
theorem dns_same (s : Same H H') (h : DnAll K (hid S H) vs ds) : DnAll K (hid S H') vs ds := DnAll.mono (Rk.of s) h
theorem ls_new {p : Addr} (l : Live S H) (n : H p = none) (h : DnAll K (hid S H) vs ds) : Ls K S (upd H p (.lst vs)) (.ref p) ds :=
  ⟨p, vs, rfl, hid_at (l.new n) upd_same, DnAll.mono (Rk.of (same_new n)) h⟩
/-- a new list -/
def NwL (K : PySem.W.Frag) (S : List Addr) (H : Hp) (ds : List PyData) (Q : VK) : Prop := ∀ w H2, Same H H2 → Live S H2 → Ls K S H2 w ds → Q w H2
theorem st_newLs (zK : Sm K) (l : Live S H) (h : DnAll K (hid S H) vs ds) (z : vs.length ≤ 100000) (q : NwL K S H ds Q) : NewL Q vs H :=
  ⟨Nat.le_trans z (by decide), fun p n => q _ _ (same_new n) l.wr (ls_new l n h)⟩
theorem st_catLs (l : Live S H) (h1 : Ls K S H v ds) (h2 : Ls K S H w es) (z : ds.length + es.length ≤ 100000) (q : NwL K S H (ds ++ es) Q) : rAdd K v w H Q := by
  obtain ⟨a, vs, rfl, a1, a2⟩ := h1.ex
  obtain ⟨b, ws, rfl, b1, b2⟩ := h2.ex
  refine .inr (.inr (.inl ⟨a, b, vs, ws, rfl, rfl, hid_le _ _ a1, hid_le _ _ b1, ?_, fun p n => q _ _ (same_new n) l.wr (ls_new l n (DnAll.append a2 b2))⟩))
  rw [a2.length, b2.length]
  exact Nat.le_trans z (by decide)
theorem DnAll.flat {n : Nat} (h : DnAll K H vs ds) : DnAll K H (List.replicate n vs).flatten (List.replicate n ds).flatten := by
  induction n with
  | zero => exact .nil
  | succ n ih =>
    rw [List.replicate_succ, List.flatten_cons, List.replicate_succ, List.flatten_cons]
    exact DnAll.append h ih
theorem st_repLs {k : Int} (l : Live S H) (h1 : Ls K S H v ds) (h0 : -1000000 ≤ k) (hk : k ≤ 1000000) (z : ds.length * k.toNat ≤ 100000) (q : NwL K S H (List.replicate k.toNat ds).flatten Q) : rMul v (.int k) H Q := by
  obtain ⟨a, vs, rfl, a1, a2⟩ := h1.ex
  refine .inr ⟨a, k, vs, rfl, rfl, hid_le _ _ a1, by omega, by omega, ?_, fun p n => q _ _ (same_new n) l.wr (ls_new l n a2.flat)⟩
  rw [a2.length]
  exact Nat.le_trans z (by decide)
/-- a cut of any list -/
def cutG {α : Type} (xs : List α) (lo hi : Option Int) : List α := (xs.drop (HT.sIx xs.length 0 lo)).take (HT.sIx xs.length xs.length hi - HT.sIx xs.length 0 lo)
theorem DnAll.cut {lo hi : Option Int} (h : DnAll K H vs ds) : DnAll K H (cutV vs lo hi) (cutG ds lo hi) := by
  show DnAll K H ((vs.drop (HT.sIx vs.length 0 lo)).take (HT.sIx vs.length vs.length hi - HT.sIx vs.length 0 lo)) _
  rw [h.length]
  exact (h.drop _).take _
theorem cut_mem {α : Type} {xs : List α} {lo hi : Option Int} {x : α} (h : x ∈ cutG xs lo hi) : x ∈ xs := List.mem_of_mem_drop (List.mem_of_mem_take h)
theorem cut_len {α : Type} {xs : List α} {lo hi : Option Int} : (cutG xs lo hi).length ≤ xs.length := by
  unfold cutG
  rw [List.length_take, List.length_drop]
  omega
theorem cut_all {α : Type} {xs : List α} {lo hi : Option Int} (h1 : HT.sIx xs.length 0 lo = 0) (h2 : HT.sIx xs.length xs.length hi = xs.length) : cutG xs lo hi = xs := by
  unfold cutG
  rw [h1, h2, List.drop_zero, Nat.sub_zero, List.take_length]
theorem st_slLs {lo hi : Option Int} (l : Live S H) (h : Dn K (hid S H) v (.list ds)) (q : NwL K S H (cutG ds lo hi) Q) : rSlU K v lo hi H Q := by
  obtain ⟨a, vs, rfl, h1, h2⟩ := h.listv
  exact .inl ⟨a, vs, rfl, sqL_up h1, fun p n => q _ _ (same_new n) l.wr (ls_new l n h2.cut)⟩
/-- a new datum -/
def NwD (K : PySem.W.Frag) (S : List Addr) (H : Hp) (d : PyData) (Q : VK) : Prop := ∀ w H2, Same H H2 → Live S H2 → Dn K (hid S H2) w d → Q w H2
theorem st_newTs (zK : Sm K) (l : Live S H) (h : DnAll K (hid S H) vs ds) (z : vs.length ≤ 100000) (q : NwD K S H (.tuple ds) Q) : NewT Q vs H :=
  ⟨Nat.le_trans z (by decide), fun p n => q _ _ (same_new n) l.wr (dn_newT l n h)⟩
theorem st_slTs {lo hi : Option Int} (l : Live S H) (h : Dn K (hid S H) v (.tuple ds)) (q : NwD K S H (.tuple (cutG ds lo hi)) Q) : rSlU K v lo hi H Q := by
  have h' := h
  obtain ⟨a, vs, rfl, h1, h2⟩ := h.tupv
  refine .inr (.inl ⟨a, vs, rfl, sqT_up h1, fun e => ?_, fun _ p n => q _ _ (same_new n) l.wr (dn_newT l n h2.cut)⟩)
  rw [h2.length] at e
  refine q _ _ (Same.refl _) l ?_
  rw [cut_all e.1 e.2]
  exact h'
theorem st_catTs (l : Live S H) (h1 : Dn K (hid S H) v (.tuple ds)) (h2 : Dn K (hid S H) w (.tuple es)) (z : ds.length + es.length ≤ 100000) (q : NwD K S H (.tuple (ds ++ es)) Q) : rAdd K v w H Q := by
  have k1 := h1
  have k2 := h2
  obtain ⟨a, vs, rfl, a1, a2⟩ := h1.tupv
  obtain ⟨b, ws, rfl, b1, b2⟩ := h2.tupv
  refine .inr (.inr (.inr ⟨a, b, vs, ws, rfl, rfl, sqT_up a1, sqT_up b1, ?_, fun e => ?_, fun _ e => ?_, fun _ _ p n => q _ _ (same_new n) l.wr (dn_newT l n (DnAll.append a2 b2))⟩))
  · rw [a2.length, b2.length]
    exact Nat.le_trans z (by decide)
  · have e2 := a2.length
    rw [e, List.length_nil] at e2
    have e3 : ds = [] := List.eq_nil_of_length_eq_zero e2.symm
    subst e3
    exact q _ _ (Same.refl _) l k2
  · have e2 := b2.length
    rw [e, List.length_nil] at e2
    have e3 : es = [] := List.eq_nil_of_length_eq_zero e2.symm
    subst e3
    rw [List.append_nil] at q
    exact q _ _ (Same.refl _) l k1
/-- list(x) -/
def rList (K : PySem.W.Frag) : List V → Hp → VK → Prop := fun xs H Q => ∃ p ys, xs = [.ref p] ∧ (SqL K H p ys ∨ SqT K H p ys) ∧ ∀ l, H l = none → Q (.ref l) (upd H l (.lst ys))
theorem st_listT (l : Live S H) (h : Dn K (hid S H) v (.tuple ds)) (q : NwL K S H ds Q) : rList K [v] H Q := by
  obtain ⟨a, vs, rfl, h1, h2⟩ := h.tupv
  exact ⟨a, vs, rfl, .inr (sqT_up h1), fun p n => q _ _ (same_new n) l.wr (ls_new l n h2)⟩
theorem st_listL (l : Live S H) (h : Dn K (hid S H) v (.list ds)) (q : NwL K S H ds Q) : rList K [v] H Q := by
  obtain ⟨a, vs, rfl, h1, h2⟩ := h.listv
  exact ⟨a, vs, rfl, .inl (sqL_up h1), fun p n => q _ _ (same_new n) l.wr (ls_new l n h2)⟩
/-- {} -/
theorem st_dnew (zK : Sm K) (l : Live S H) (q : NwD K S H (.dict []) Q) : tDNewK σ H Q := fun p n => q _ _ (same_new n) l.wr (.dct (kvs := []) (kd := []) (hid_at (l.new n) upd_same) .nil .nil)
/-- {texts: ..}: one pair -/
theorem st_disp1 {k : Str} {tv : TE} (l : Live S H) (q : ∀ p, H p = none → tv σ (upd H p (.dK [])) fun y H2 => y = w ∧ H2 = upd H p (.dK [])) {d : PyData} (hw : Dn K (hid S H) w d) (q2 : NwD K S H (.dict [(.str k, d)]) Q) (mono : ∀ {σ H P P'}, tv σ H P → (∀ x H, P x H → P' x H) → tv σ H P') :
    tDisp [(tC (.str k), tv)] σ H Q := fun p n => by
  show tv σ (upd H p (.dK [])) _
  refine mono (q p n) fun y H2 e => ?_
  obtain ⟨rfl, rfl⟩ := e
  refine ⟨upd_same, [(.inr k, y)], rfl, by simp, ?_⟩
  have e2 : upd (upd H p (.dK [])) p (.dK (mergeK [] [(.inr k, y)])) = upd H p (.dK [(.inr k, y)]) := by
    funext b
    by_cases hb : b = p
    · subst hb
      rw [upd_same, upd_same]
      rfl
    · rw [upd_ne hb, upd_ne hb, upd_ne hb]
  rw [e2]
  have nr : Rk S H (upd H p (.dK [(.inr k, y)])) := Rk.of (same_new n)
  exact q2 _ _ (same_new n) l.wr (.dct (kvs := [(.inr k, y)]) (kd := [(.str k, d)]) (hid_at (l.new n) upd_same) (.cons (.str k) .nil) (.cons (Dn.mono nr hw) .nil))
/-! ### all, any -/
theorem st_allR {p : Addr} {n : Nat} {f : Nat → Bool} (h : H p = some (.lst ((List.range n).map fun i => V.bl (f i)))) (q : Q (.bl ((List.range n).all f)) H) : rAll K [.ref p] H Q := by
  refine ⟨p, (List.range n).map f, rfl, SqL.of (by rw [List.map_map]; exact h), ?_⟩
  rw [List.all_map]
  exact q
theorem st_anyR {p : Addr} {n : Nat} {f : Nat → Bool} (h : H p = some (.lst ((List.range n).map fun i => V.bl (f i)))) (q : Q (.bl ((List.range n).any f)) H) : rAny K [.ref p] H Q := by
  refine ⟨p, (List.range n).map f, rfl, SqL.of (by rw [List.map_map]; exact h), ?_⟩
  rw [List.any_map]
  exact q
theorem range_all {α : Type} {xs : List α} {f : Nat → Bool} {g : α → Bool} (h : ∀ i x, xs[i]? = some x → f i = g x) : (List.range xs.length).all f = xs.all g := by
  rw [Bool.eq_iff_iff, List.all_eq_true, List.all_eq_true]
  constructor
  · intro a x m
    obtain ⟨i, hi, e⟩ := List.getElem_of_mem m
    rw [← h i x (by rw [← e]; exact List.getElem?_eq_getElem hi)]
    exact a i (List.mem_range.mpr hi)
  · intro a i m
    have hi := List.mem_range.mp m
    rw [h i xs[i] (List.getElem?_eq_getElem hi)]
    exact a _ (List.getElem_mem hi)
theorem range_any {α : Type} {xs : List α} {f : Nat → Bool} {g : α → Bool} (h : ∀ i x, xs[i]? = some x → f i = g x) : (List.range xs.length).any f = xs.any g := by
  rw [Bool.eq_iff_iff, List.any_eq_true, List.any_eq_true]
  constructor
  · rintro ⟨i, m, a⟩
    have hi := List.mem_range.mp m
    rw [h i xs[i] (List.getElem?_eq_getElem hi)] at a
    exact ⟨_, List.getElem_mem hi, a⟩
  · rintro ⟨x, m, a⟩
    obtain ⟨i, hi, e⟩ := List.getElem_of_mem m
    rw [← h i x (by rw [← e]; exact List.getElem?_eq_getElem hi)] at a
    exact ⟨i, List.mem_range.mpr hi, a⟩
/-! ### methods -/
theorem st_m0 {r : V → List V → Hp → VK → Prop} {to : TE} (q : to σ H fun x H1 => (∃ a, x = .str a) ∧ r x [] H1 Q) : tM0 r to σ H Q := q
theorem st_m1 {r : V → List V → Hp → VK → Prop} {to te : TE} (q : to σ H fun x H1 => (∃ a, x = .str a) ∧ te σ H1 fun y H2 => r x [y] H2 Q) : tM1 r to te σ H Q := q
theorem st_isS {a : Str} {P : Prop} (q : P) : (∃ b, V.str a = .str b) ∧ P := ⟨⟨a, rfl⟩, q⟩
theorem DnAll.strsOf : ∀ {vs : List V} {ds : List PyData}, DnAll K H vs ds → (∀ d ∈ ds, ∃ x, d = .str x) → ∃ xs : List Str, ds = xs.map PyData.str ∧ vs = xs.map V.str
  | _, _, .nil, _ => ⟨[], rfl, rfl⟩
  | _, _, .cons h t, e => by
    obtain ⟨x, rfl⟩ := e _ List.mem_cons_self
    obtain ⟨xs, rfl, rfl⟩ := DnAll.strsOf t fun d m => e d (List.mem_cons_of_mem _ m)
    exact ⟨x :: xs, rfl, by rw [h.strv]; rfl⟩
/-- sep.join(list of texts) -/
def rJoin (K : PySem.W.Frag) : V → List V → Hp → VK → Prop := fun x xs H Q => ∃ a p, ∃ ys : List Str, x = .str a ∧ xs = [.ref p] ∧ (SqL K H p (ys.map V.str) ∨ SqT K H p (ys.map V.str)) ∧
  (ys.map (·.length)).sum + ys.length * a.length ≤ 16777216 ∧ Q (.str (Txt.join a ys)) H
theorem st_join {a : Str} {xs : List Str} (h : Dn K (hid S H) v (.list (xs.map PyData.str))) (z : (xs.map (·.length)).sum + xs.length * a.length ≤ 16777216) (q : Q (.str (Txt.join a xs)) H) : rJoin K (.str a) [v] H Q := by
  obtain ⟨p, vs, rfl, h1, h2⟩ := h.listv
  have e := h2.strsv
  subst e
  exact ⟨a, p, xs, rfl, rfl, .inl (sqL_up h1), z, q⟩
/-! ### texts -/
theorem st_slS {z : Str} {lo hi : Option Int} (hz : z.length ≤ sizeLine) (q : Q (.str (cutS z lo hi)) H) : rSlU K (.str z) lo hi H Q := .inr (.inr ⟨z, rfl, hz, q⟩)
theorem len_cat (a b : Str) : (a ++ b).length = a.length + b.length := by
  show (a.cps ++ b.cps).size = _
  rw [Array.size_append]
  rfl
theorem len_toString {i : Int} {k : Nat} (hk : 0 < k) (h : i.natAbs < 10 ^ k) : (Str.ofString (toString i)).length ≤ k + 1 := by
  rw [PySem.ofString_length]
  have hn : ∀ n : Nat, n < 10 ^ k → (Nat.repr n).length ≤ k := fun n hn => by
    have := PyProof.Rows.toString_length_le (v := (n : Int)) (by omega) hk (by
      have e : ((10 : Int) ^ k) = ((10 ^ k : Nat) : Int) := by simp
      rw [e]
      omega)
    rw [PySem.ofString_length] at this
    exact this
  cases i with
  | ofNat n => exact Nat.le_succ_of_le (hn n h)
  | negSucc n =>
    show (("-" : String) ++ Nat.repr (n + 1)).length ≤ k + 1
    rw [String.length_append]
    have := hn (n + 1) h
    have e1 : ("-" : String).length = 1 := by decide
    omega
end
/-! ### for -/
section
variable {σ : L2.St} {H : Hp} {D : Ends}
theorem st_for {wi : TI} {g : TG} {tb : TS} (q : wi σ H fun J H1 => ∃ W : Nat → Nat → L2.St → Hp → Prop, (∃ m, W 0 m σ H1) ∧ ∀ i m σ H, W i m σ H →
  (J.stop i H ∧ D.nx σ H) ∨ (J.go i H ∧ ∃ N : L2.St → Hp → Prop, (∀ σ' H', N σ' H' → ∃ m', m' < m ∧ W (i + 1) m' σ' H') ∧ ∀ x H', J.yld i H x H' → g x σ H' fun σ2 H2 => tb { D with nx := N, ct := N, bk := D.nx } σ2 H2)) : tFor wi g tb D σ H := q
end
/-! ### sequences of three kinds -/
def sq : PyData → Option (List PyData)
  | .list ds => some ds
  | .tuple ds => some ds
  | .str z => some (z.cps.toList.map fun c => .str ⟨#[c]⟩)
  | _ => none
section
variable {K : PySem.W.Frag} {S : List Addr} {σ : L2.St} {H H' : Hp} {Q : VK} {v w : V} {d : PyData} {ds es : List PyData} {vs ws : List V}
theorem st_lenQ (h : Dn K (hid S H) v d) (e : sq d = some ds) (z : ds.length ≤ 100000) (q : Q (.int ds.length) H) : rLenU K [v] H Q := by
  cases d with
  | list xs =>
    cases e
    exact st_lenL h q
  | tuple xs =>
    cases e
    exact st_lenT h q
  | str x =>
    cases e
    rw [h.strv]
    have hl : (x.cps.toList.map fun c => PyData.str ⟨#[c]⟩).length = x.length := by simp [Str.length]
    rw [hl] at q z
    exact st_lenS (Nat.le_trans z (by decide)) q
  | _ => cases e
theorem st_ixQ {i : Int} (h : Dn K (hid S H) v d) (e : sq d = some ds) (z : ds.length ≤ 100000) (h0 : 0 ≤ i) (hi : i < ds.length) (q : ∀ w x, x ∈ ds → ds[i.toNat]? = some x → Dn K (hid S H) w x → Q w H) : rIx K v (.int i) H Q := by
  cases d with
  | list xs =>
    cases e
    exact st_ixL h h0 hi fun w x e hx => q w x (List.mem_of_getElem? e) e hx
  | tuple xs =>
    cases e
    exact st_ixT h h0 hi fun w x e hx => q w x (List.mem_of_getElem? e) e hx
  | str x =>
    cases e
    rw [h.strv]
    have hl : (x.cps.toList.map fun c => PyData.str ⟨#[c]⟩).length = x.length := by simp [Str.length]
    rw [hl] at hi z
    have hl2 : x.cps.toList.length = x.length := by simp [Str.length]
    have hd : x.cps.toList[i.toNat]? = some x.cps.toList[i.toNat] := List.getElem?_eq_getElem (by omega)
    have he : (x.cps.toList.map fun c => PyData.str ⟨#[c]⟩)[i.toNat]? = some (.str ⟨#[x.cps.toList[i.toNat]]⟩) := by rw [List.getElem?_map, hd]; rfl
    exact .inr (.inr ⟨x, i, _, rfl, rfl, Nat.le_trans z (by decide), atI_of h0 hd, q _ _ (List.mem_of_getElem? he) he (.str _)⟩)
  | _ => cases e
end
theorem join_ones_len (l : List PySem.Str) (h : ∀ a ∈ l, a.length = 1) : (PySem.Txt.join (PySem.Str.ofString "") l).length = l.length := PySem.W.KT.join_ones l h
theorem eqf {b : Bool} (h : ¬ b = true) : b = false := by cases b <;> simp_all
/-! ### the rules, the written part named (within comprehensions too) -/
section
variable {X : Cx} {K : PySem.W.Frag}
theorem op_inB (z : Sm K) (hu : X.A.units + 1 < cLine) (e : X.K = K := by rfl) : OpR X (compareOp .In) (rInU K) := by
  subst e
  exact op_inU z hu
theorem op_notInB (z : Sm K) (hu : X.A.units + 1 < cLine) (e : X.K = K := by rfl) : OpR X (compareOp .NotIn) (rNotInU K) := by
  subst e
  exact op_notInU z hu
theorem op_eqB (hu : X.A.units + 64 < cLine) (e : X.K = K := by rfl) : OpR X (compareOp .Eq) (rEqU K) := by
  subst e
  exact op_eqU hu
theorem op_neB (hu : X.A.units + 64 < cLine) (e : X.K = K := by rfl) : OpR X (compareOp .NotEq) (rNeU K) := by
  subst e
  exact op_neU hu
theorem op_addB (e : X.K = K := by rfl) : OpR X (binaryOp .Add) (rAdd K) := by
  subst e
  exact op_addU
theorem call_lenB (e : X.K = K := by rfl) : CallR X (.builtin "len") (rLenU K) := by
  subst e
  exact call_lenU
theorem call_isiB (e : X.K = K := by rfl) : CallR X (.builtin "isinstance") (rIsiD K) := by
  subst e
  exact call_isiD
theorem call_reprB (z : Sm K) (gd : X.A.guards = some []) (hu : X.A.units + 64 < cLine) (e : X.K = K := by rfl) : CallR X (.builtin "repr") (rRepr K) := by
  subst e
  exact call_reprD z gd hu
theorem ix_seqB (e : X.K = K := by rfl) : IxR X (rIx K) := by
  subst e
  exact ix_seq
theorem sl_B (e : X.K = K := by rfl) : SlR X (rSlU K) := by
  subst e
  exact sl_U
theorem cr_allB (hc : X.calm = true) (e : X.K = K := by rfl) : CallR X (.builtin "all") (rAll K) := by
  subst e
  exact cr_all hc
theorem cr_anyB (hc : X.calm = true) (e : X.K = K := by rfl) : CallR X (.builtin "any") (rAny K) := by
  subst e
  exact cr_any hc
theorem pe_joinB {o e : Expr} {to te : TE} {apos pos : Pos} (ho : PE X o to) (he : PE X e te) (hK : X.K = K := by rfl) (hs : starEach [e] X.env = [(false, eval e X.env)] := by rfl) (hbase : attributeBase o "join" X.env (eval o X.env) = eval o X.env := by rfl) (hline : (apos.endLine == pos.line) = true := by rfl) :
    PE X (.Call (.Attribute o "join" apos) [e] [] pos) (tM1 (rJoin K) to te) := by
  subst hK
  exact pe_join ho he hs hbase hline
theorem call_listB (e : X.K = K := by rfl) : CallR X (.type "list") (rList K) := by
  subst e
  exact call_list_of
end
theorem iteNT {A B : Prop} (h : B) : if (!true) = true then A else B := h
theorem iteNF {A B : Prop} (h : A) : if (!false) = true then A else B := h
end Fg
/-! Fgh: what the defs compute, and their contracts. -/
namespace Fg
open PySem PySem.Spec PyProof.Rows L2
section
variable {K : PySem.W.Frag} {S : List Addr} {σ : L2.St} {H H' : Hp} {Q : VK} {v w : V} {d : PyData} {ds es : List PyData} {vs ws : List V}
theorem st_neSS {i : Str} (q : Q (.bl false) H) : rNeU K (.str i) (.str i) H Q := st_neS (by simpa using q)
theorem st_eqSS {i : Str} (q : Q (.bl true) H) : rEqU K (.str i) (.str i) H Q := st_eqS (by simpa using q)
theorem st_dispC {k : Str} (zK : Sm K) (l : Live S H) (hw : Dn K (hid S H) w d) (q : NwD K S H (.dict [(.str k, d)]) Q) : tDisp [(tC (.str k), tC w)] σ H Q :=
  st_disp1 l (fun p _ => ⟨rfl, rfl⟩) hw q fun h k => k _ _ h
theorem st_lenR {a : Addr} (h : SqL K H a vs) (q : Q (.int vs.length) H) : rLenU K [.ref a] H Q := ⟨_, vs.length, rfl, .inl ⟨vs, h, rfl⟩, q⟩
theorem st_ixSq {a : Addr} {i : Int} (h : SqL K H a vs) (h0 : 0 ≤ i) (hi : i < vs.length) (q : ∀ w, vs[i.toNat]? = some w → Q w H) : rIx K (.ref a) (.int i) H Q := by
  have hd : vs[i.toNat]? = some vs[i.toNat] := List.getElem?_eq_getElem (by omega)
  exact .inl ⟨a, vs, i, _, rfl, rfl, h, atI_of h0 hd, q _ hd⟩
theorem sq_hid {p a : Addr} (h : SqL K H a vs) (n : H p = none) (s : Same H H') : SqL K (hid [p] H') a vs := Same.seq (fun b o e => hid_at (by simpa using ne_of_none e n) (s _ _ e)) h
theorem sq_rk {a : Addr} (h : SqL K (hid S H) a vs) (r : Rk S H H') : SqL K (hid S H') a vs := Same.seq r h
end
/-! ### the pot's defs -/
def spCell (K : PySem.W.Frag) : Sp := fun vs H Q _ => ∃ (a : Addr) (ns : List Int) (k : Int), vs = [.ref a, .int k] ∧ SqL K H a (ns.map V.int) ∧ 0 ≤ k ∧ ∀ i, Q (.int i) H
def spStart : Sp := fun vs H Q _ => ∃ (c k : Int), vs = [.int c, .int k] ∧ 0 ≤ k ∧ k ≤ 100000 ∧ ∀ p H', H p = none → Same H H' → Pot p H' → Q (.ref p) H'
/-- a draw below n -/
def spDigit : Sp := fun vs H Q _ => ∃ (p : Addr) (n : Int), vs = [.ref p, .int n] ∧ Pot p H ∧ 0 < n ∧ n < 2 ^ 200 ∧ ∀ (r : Int) (H' : Hp), 0 ≤ r → r < n → Rk [p] H H' → Pot p H' → Q (.int r) H'
def spPick (K : PySem.W.Frag) : Sp := fun vs H Q _ => ∃ S p v d ds, vs = [.ref p, v] ∧ Stt S p H ∧ Dn K (hid S H) v d ∧ sq d = some ds ∧ ds.length ≤ 100000 ∧ 0 < ds.length ∧
  ∀ w x H', x ∈ ds → Dn K (hid S H') w x → Rk [p] H H' → Pot p H' → Q w H'
/-- a def that makes a datum from the pot -/
def spGen (K : PySem.W.Frag) (P : PyData → Prop) : Sp := fun vs H Q _ => ∃ S p, vs = [.ref p] ∧ Stt S p H ∧ ∀ w x H', P x → Dn K (hid S H') w x → Rk [p] H H' → Pot p H' → Q w H'
/-- the same, from a datum -/
def spGenA (K : PySem.W.Frag) (A : PyData → Prop) (P : PyData → PyData → Prop) : Sp := fun vs H Q _ => ∃ S p v d, vs = [.ref p, v] ∧ Stt S p H ∧ Dn K (hid S H) v d ∧ A d ∧ ∀ w x H', P d x → Dn K (hid S H') w x → Rk [p] H H' → Pot p H' → Q w H'
def isText (n : Nat) (d : PyData) : Prop := ∃ x, d = .str x ∧ x.length ≤ n
theorem isText.mono {m n : Nat} {d : PyData} (h : isText m d) (l : m ≤ n) : isText n d := by
  obtain ⟨x, e, z⟩ := h
  exact ⟨x, e, Nat.le_trans z l⟩
/-! ### names, whole numbers, events -/
def isWhole (d : PyData) : Bool := tyIs "int" d && !tyIs "bool" d
def letters : Str := "abcdefghijklmnopqrstuvwxyz"
def isName : PyData → Bool
  | .str x => (decide (1 ≤ x.length) && decide (x.length ≤ 8)) && x.cps.toList.all fun c => decide (c ∈ letters.cps.toList)
  | _ => false
def ways : List Str := ["take", "guess", "give"]
def isEvent : PyData → Bool
  | .tuple [a, b, c] => (ways.any fun z => isTxt z a) && (isName b && isWhole c)
  | _ => false
def spFn (K : PySem.W.Frag) (f : PyData → Bool) : Sp := fun vs H Q _ => ∃ S v d, vs = [v] ∧ Dn K (hid S H) v d ∧ szD d = true ∧ ∀ H', Same H H' → Q (.bl (f d)) H'
/-- what a def says of an event's part -/
def ptOk (d : PyData) : Prop := isText 30 d ∨ ∃ i, d = .int i ∧ i.natAbs < 10 ^ 40
def anEvent (d : PyData) : Prop := ∃ a b i, d = .tuple [a, b, .int i] ∧ isText 30 a ∧ isText 30 b ∧ i.natAbs < 10 ^ 40
def short (d : PyData) : Prop := szD d = true
section
variable {K : PySem.W.Frag} {S : List Addr} {H : Hp} {Q : VK} {v : V} {d : PyData}
theorem szD_text {n : Nat} (h : isText n d) (l : n ≤ 1000) : szD d = true := by
  obtain ⟨x, rfl, z⟩ := h
  simp only [szD, decide_eq_true_eq]
  omega
theorem ptOk.sz (h : ptOk d) : szD d = true := by
  rcases h with h | ⟨i, rfl, _⟩
  · exact szD_text h (by decide)
  · simp only [szD]
theorem st_strP (h : Dn K (hid S H) v d) (o : ptOk d) (q : ∀ y : Str, y.length ≤ 50 → Q (.str y) H) : rStr [v] H Q := by
  rcases o with ⟨x, rfl, z⟩ | ⟨i, rfl, z⟩
  · rw [h.strv]
    exact st_strS (q x (by omega))
  · rw [h.intv]
    refine st_strI ?_ (q _ (Nat.le_trans (len_toString (k := 40) (by decide) z) (by decide)))
    by_cases e : i.natAbs = 0
    · rw [e]
      decide
    · rw [Nat.log2_lt e]
      exact Nat.lt_of_lt_of_le z (by decide)
theorem anEvent.at (h : anEvent d) : ∃ xs, d = .tuple xs ∧ xs.length = 3 ∧ ∀ x ∈ xs, ptOk x := by
  obtain ⟨a, b, i, rfl, ha, hb, hi⟩ := h
  refine ⟨_, rfl, rfl, fun x m => ?_⟩
  simp only [List.mem_cons, List.not_mem_nil, or_false] at m
  rcases m with rfl | rfl | rfl
  · exact .inl ha
  · exact .inl hb
  · exact .inr ⟨i, rfl, hi⟩
theorem szT {xs : List PyData} (h : ∀ x ∈ xs, szD x = true) : szD (.tuple xs) = true := by
  simp only [szD]
  exact szAll_of h
theorem szL {xs : List PyData} (h : ∀ x ∈ xs, szD x = true) : szD (.list xs) = true := by
  simp only [szD]
  exact szAll_of h
end
section
variable {K : PySem.W.Frag} {S : List Addr} {H : Hp} {Q : VK} {v w : V} {d : PyData} {ds : List PyData}
theorem st_ixG {i : Int} (l : Live S H) (h : Dn K (hid S H) v d) (e : sq d = some ds) (z : ds.length ≤ 100000) (h0 : 0 ≤ i) (hi : i < ds.length) (q : ∀ w x, x ∈ ds → Dn K (hid S H) w x → Q w H) : rIx K v (.int i) H Q :=
  st_ixQ h e z h0 hi fun w x m _ hx => q w x m hx
theorem st_lenG (l : Live S H) (h : Dn K (hid S H) v d) (e : sq d = some ds) (z : ds.length ≤ 100000) (q : Q (.int ds.length) H) : rLenU K [v] H Q := st_lenQ h e z q
end
theorem ones_of : ∀ {ds : List PyData}, (∀ d ∈ ds, ∃ c, d = PyData.str ⟨#[c]⟩) → ∃ xs : List Str, ds = xs.map PyData.str ∧ (∀ a ∈ xs, a.length = 1) ∧ (xs.map (·.length)).sum = ds.length ∧ xs.length = ds.length
  | [], _ => ⟨[], rfl, fun _ m => (nomatch m), rfl, rfl⟩
  | d :: ds, h => by
    obtain ⟨c, rfl⟩ := h d List.mem_cons_self
    obtain ⟨xs, rfl, h1, h2, h3⟩ := ones_of fun x m => h x (List.mem_cons_of_mem _ m)
    refine ⟨⟨#[c]⟩ :: xs, rfl, fun a m => ?_, ?_, ?_⟩
    · rcases List.mem_cons.mp m with rfl | m
      · rfl
      · exact h1 a m
    · rw [List.map_cons, List.sum_cons, h2, List.length_cons]
      show 1 + _ = _
      omega
    · rw [List.length_cons, h3, List.length_cons]
theorem ones_at {ds : List PyData} {P : PyData → Prop} (h : ∀ (i : Nat) (d : PyData), ds[i]? = some d → P d) : ∀ d ∈ ds, P d := fun d m => by
  obtain ⟨i, hi, e⟩ := List.getElem_of_mem m
  exact h i d (by rw [← e]; exact List.getElem?_eq_getElem hi)
theorem str_nil {x : Str} (h : x.length = 0) : x = "" := by
  obtain ⟨⟨l⟩⟩ := x
  have h : l.length = 0 := h
  have e := List.eq_nil_of_length_eq_zero h
  subst e
  decide
theorem sign_of {z : Str} {x : PyData} (h : x ∈ z.cps.toList.map fun c => PyData.str ⟨#[c]⟩) : ∃ c, c ∈ z.cps.toList ∧ x = .str ⟨#[c]⟩ := by
  obtain ⟨c, m, rfl⟩ := List.mem_map.mp h
  exact ⟨c, m, rfl⟩
section
variable {K : PySem.W.Frag} {S : List Addr} {H : Hp} {Q : VK} {v w : V} {d : PyData} {ds : List PyData}
theorem st_reprBl {b : Bool} (q : Q (.str (PyData.bool b).shown) H) : rRepr K [.bl b] H Q :=
  st_repr (S := []) (d := .bool b) (.bl b) (by cases b <;> decide +kernel) (by cases b <;> decide +kernel) (by cases b <;> decide +kernel) q
theorem szAll_append (as bs : List PyData) : szAll (as ++ bs) = (szAll as && szAll bs) := by
  induction as with
  | nil => simp [szAll]
  | cons a as ih => simp [szAll, ih, Bool.and_assoc]
theorem szD_cat {a b : Str} (h : a.length + b.length ≤ 1000) : szD (.str (a ++ b)) = true := by
  simp only [szD, decide_eq_true_eq]
  rw [len_cat]
  exact h
theorem szD_str {a : Str} (h : a.length ≤ 1000) : szD (.str a) = true := by
  simp only [szD, decide_eq_true_eq]
  exact h
end
/-- a law over a script -/
def spLaw (n : Nat) (K : PySem.W.Frag) : Sp := fun vs H Q _ => ∃ (a : Addr) (ns : List Int), vs = [.ref a] ∧ ns.length ≤ n ∧ SqL K H a (ns.map V.int) ∧ ∀ H', Q (.bl true) H'
section
variable {K : PySem.W.Frag} {S : List Addr} {H : Hp} {Q : VK} {v w : V} {d : PyData} {ds : List PyData}
theorem st_itLs {R : Addr → Prop} (h : Ls K S H v ds) (q : ∀ a vs, v = .ref a → H a = some (.lst vs) → DnAll K (hid S H) vs ds → R a) : ∃ a, v = .ref a ∧ (∃ xs, SqL K H a xs) ∧ R a := by
  obtain ⟨a, vs, rfl, h1, h2⟩ := h.ex
  exact ⟨a, rfl, ⟨vs, SqL.of (hid_le _ _ h1)⟩, q a vs rfl (hid_le _ _ h1) h2⟩
theorem Stt.one {p : Addr} (pt : Pot p H) : Stt [p] p H := by
  refine ⟨List.mem_singleton.mpr rfl, fun a m z => ?_, pt⟩
  obtain ⟨x, y, e, _⟩ := pt
  rw [List.mem_singleton.mp m, e] at z
  cases z
theorem all_true (n : Nat) : (List.range n).all (fun _ => true) = true := by simp
end
end Fg
namespace Lw
open PySem PySem.Spec PyProof.Rows L2 Fg
/-! ### the text by places -/
def topS (i : Nat) : Stmt := PySem.Challenge.pw_foreguess_k11_names_and_events.main.body.getD i (.Pass ⟨0, 0, 0, 0⟩)
abbrev s_is_whole : Stmt := topS 8
theorem sc_is_whole : FnScope ["thing"] ["thing"] (defScope s_is_whole) := ⟨rfl, rfl, rfl, by decide +kernel, rfl, by decide +kernel, by decide +kernel⟩
abbrev s_is_name : Stmt := topS 9
theorem sc_is_name : FnScope ["thing", "sign"] ["thing"] (defScope s_is_name) := ⟨rfl, rfl, rfl, by decide +kernel, rfl, by decide +kernel, by decide +kernel⟩
abbrev s_is_event : Stmt := topS 10
theorem sc_is_event : FnScope ["thing"] ["thing"] (defScope s_is_event) := ⟨rfl, rfl, rfl, by decide +kernel, rfl, by decide +kernel, by decide +kernel⟩
abbrev s__law_cell : Stmt := topS 12
theorem sc__law_cell : FnScope ["_law_script", "_law_k"] ["_law_script", "_law_k"] (defScope s__law_cell) := ⟨rfl, rfl, rfl, by decide +kernel, rfl, by decide +kernel, by decide +kernel⟩
abbrev s__law_start : Stmt := topS 13
theorem sc__law_start : FnScope ["_law_cell_here", "_law_k"] ["_law_cell_here", "_law_k"] (defScope s__law_start) := ⟨rfl, rfl, rfl, by decide +kernel, rfl, by decide +kernel, by decide +kernel⟩
abbrev s__law_digit : Stmt := topS 14
theorem sc__law_digit : FnScope ["_law_pot", "_law_size", "_law_digit_here"] ["_law_pot", "_law_size"] (defScope s__law_digit) := ⟨rfl, rfl, rfl, by decide +kernel, rfl, by decide +kernel, by decide +kernel⟩
abbrev s__law_pick : Stmt := topS 15
theorem sc__law_pick : FnScope ["_law_pot", "_law_some"] ["_law_pot", "_law_some"] (defScope s__law_pick) := ⟨rfl, rfl, rfl, by decide +kernel, rfl, by decide +kernel, by decide +kernel⟩
abbrev s__law_text : Stmt := topS 16
theorem sc__law_text : FnScope ["_law_pot", "_law_letters", "_law_size", "_law_found", "_law_at", "_law_k"] ["_law_pot"] (defScope s__law_text) := ⟨rfl, rfl, rfl, by decide +kernel, rfl, by decide +kernel, by decide +kernel⟩
abbrev s__law_is_name : Stmt := topS 17
theorem sc__law_is_name : FnScope ["_law_thing", "_law_sign"] ["_law_thing"] (defScope s__law_is_name) := ⟨rfl, rfl, rfl, by decide +kernel, rfl, by decide +kernel, by decide +kernel⟩
abbrev s__law_is_event : Stmt := topS 18
theorem sc__law_is_event : FnScope ["_law_thing"] ["_law_thing"] (defScope s__law_is_event) := ⟨rfl, rfl, rfl, by decide +kernel, rfl, by decide +kernel, by decide +kernel⟩
abbrev s__law_some_event : Stmt := topS 19
theorem sc__law_some_event : FnScope ["_law_pot", "_law_number"] ["_law_pot"] (defScope s__law_some_event) := ⟨rfl, rfl, rfl, by decide +kernel, rfl, by decide +kernel, by decide +kernel⟩
abbrev s__law_odd_thing : Stmt := topS 20
theorem sc__law_odd_thing : FnScope ["_law_pot", "_law_part", "_law_odd"] ["_law_pot", "_law_part"] (defScope s__law_odd_thing) := ⟨rfl, rfl, rfl, by decide +kernel, rfl, by decide +kernel, by decide +kernel⟩
abbrev s__law_otherwise : Stmt := topS 21
theorem sc__law_otherwise : FnScope ["_law_pot", "_law_event", "_law_way", "_law_at"] ["_law_pot", "_law_event"] (defScope s__law_otherwise) := ⟨rfl, rfl, rfl, by decide +kernel, rfl, by decide +kernel, by decide +kernel⟩
abbrev s__law_right : Stmt := topS 22
theorem sc__law_right : FnScope ["_law_thing"] ["_law_thing"] (defScope s__law_right) := ⟨rfl, rfl, rfl, by decide +kernel, rfl, by decide +kernel, by decide +kernel⟩
abbrev s_law : Stmt := topS 23
theorem sc_law : FnScope ["_law_script", "_law_k", "_law_pot", "_law_event", "_law_some", "_law_thing"] ["_law_script"] (defScope s_law) := ⟨rfl, rfl, rfl, by decide +kernel, rfl, by decide +kernel, by decide +kernel⟩
/-- what the top has written, of each name -/
structure Tx (K : PySem.W.Frag) (mg : Str → Option Value) : Prop where
  sm : Sm K
  b_abs : mg "abs" = none
  b_all : mg "all" = none
  b_bool : mg "bool" = none
  b_divmod : mg "divmod" = none
  b_int : mg "int" = none
  b_isinstance : mg "isinstance" = none
  b_len : mg "len" = none
  b_list : mg "list" = none
  b_max : mg "max" = none
  b_min : mg "min" = none
  b_range : mg "range" = none
  b_repr : mg "repr" = none
  b_str : mg "str" = none
  b_tuple : mg "tuple" = none
  g_BOXES : mg "BOXES" = some (.ref (He.ga K "BOXES"))
  t_BOXES : ∀ H, SqT K H (He.ga K "BOXES") [.str "a", .str "b", .str "c", .str "d"]
  c_GIVE : ∃ t, mg "GIVE" = some (.str "give" t)
  c_GUESS : ∃ t, mg "GUESS" = some (.str "guess" t)
  c_LETTERS : ∃ t, mg "LETTERS" = some (.str "abcdefghijklmnopqrstuvwxyz" t)
  c_MOST_LETTERS : ∃ t, mg "MOST_LETTERS" = some (.int 8 t)
  c_MOST_ROWS : ∃ t, mg "MOST_ROWS" = some (.int 20 t)
  c_TAKE : ∃ t, mg "TAKE" = some (.str "take" t)
  g_is_whole : mg "is_whole" = some (.ref (He.ga K "is_whole"))
  g_is_name : mg "is_name" = some (.ref (He.ga K "is_name"))
  g_is_event : mg "is_event" = some (.ref (He.ga K "is_event"))
  g__law_cell : mg "_law_cell" = some (.ref (He.ga K "_law_cell"))
  g__law_start : mg "_law_start" = some (.ref (He.ga K "_law_start"))
  g__law_digit : mg "_law_digit" = some (.ref (He.ga K "_law_digit"))
  g__law_pick : mg "_law_pick" = some (.ref (He.ga K "_law_pick"))
  g__law_text : mg "_law_text" = some (.ref (He.ga K "_law_text"))
  g__law_is_name : mg "_law_is_name" = some (.ref (He.ga K "_law_is_name"))
  g__law_is_event : mg "_law_is_event" = some (.ref (He.ga K "_law_is_event"))
  g__law_some_event : mg "_law_some_event" = some (.ref (He.ga K "_law_some_event"))
  g__law_odd_thing : mg "_law_odd_thing" = some (.ref (He.ga K "_law_odd_thing"))
  g__law_otherwise : mg "_law_otherwise" = some (.ref (He.ga K "_law_otherwise"))
  g__law_right : mg "_law_right" = some (.ref (He.ga K "_law_right"))
  g_law : mg "law" = some (.ref (He.ga K "law"))
local macro_rules | `(tactic| walk_at "fg1") => `(tactic| first
  | with_reducible refine st_seq ?_
  | with_reducible refine st_asg ?_
  | with_reducible refine st_name ?_
  | ((with_reducible refine' st_var ?fgv ?fgw); (case fgv => exact rfl))
  | with_reducible refine st_c ?_
  | with_reducible refine st_op ?_
  | with_reducible refine st_un ?_
  | with_reducible refine st_nil ?_
  | with_reducible refine st_cons ?_
  | with_reducible refine st_cb ?_
  | with_reducible refine st_call ?_
  | with_reducible refine st_test ?_
  | with_reducible refine st_B ?_
  | with_reducible refine st_bl ?_
  | with_reducible refine st_and ?_
  | with_reducible refine st_or ?_
  | with_reducible refine st_not ?_
  | with_reducible refine st_andV ?_
  | with_reducible refine st_orV ?_
  | with_reducible refine st_notV ?_
  | with_reducible refine st_ifE ?_
  | with_reducible refine st_chain ?_
  | with_reducible refine st_part ?_
  | with_reducible refine st_int ?_
  | with_reducible refine st_nopart ?_
  | with_reducible refine st_sl ?_
  | with_reducible refine st_ret ?_
  | with_reducible refine st_if ?_
  | with_reducible refine st_next ?_
  | with_reducible refine st_drop ?_
  | with_reducible refine st_nx ?_
  | with_reducible refine st_rt ?_
  | with_reducible refine st_ct ?_
  | with_reducible refine st_bk ?_
  | with_reducible refine st_I0 ?_
  | with_reducible refine st_neg ?_
  | with_reducible refine st_addI ?_
  | with_reducible refine st_eqI ?_
  | with_reducible refine st_neI ?_
  | with_reducible refine st_abs ?_
  | with_reducible refine st_max ?_
  | with_reducible refine st_min ?_
  | with_reducible refine st_intB ?_
  | with_reducible refine st_strS ?_
  | with_reducible refine st_tup ?_
  | with_reducible refine st_lst ?_
  | with_reducible refine st_lc ?_
  | with_reducible refine st_rng1 ?_
  | with_reducible refine st_itS ?_
  | with_reducible refine st_itSI ?_
  | with_reducible refine st_itL ?_
  | with_reducible refine st_itT ?_
  | with_reducible refine st_m0 ?_
  | with_reducible refine st_m1 ?_
  | with_reducible refine st_isS ?_
  | with_reducible refine st_for ?_
  | ((with_reducible refine' st_newTs ?fgk ?fgl ?fgh ?fgz ?fgq); (case fgk => with_reducible assumption); (case fgl => with_reducible assumption); (case fgh => walk_at "dns"); (case fgz => walk_at "sz"); (walk_at "new"))
  | ((with_reducible refine' st_newLs ?fgk ?fgl ?fgh ?fgz ?fgq); (case fgk => with_reducible assumption); (case fgl => with_reducible assumption); (case fgh => walk_at "dns"); (case fgz => walk_at "sz"); (walk_at "newL"))
  | ((with_reducible refine' st_dnew ?fgk ?fgl ?fgq); (case fgk => with_reducible assumption); (case fgl => with_reducible assumption); (walk_at "new"))
  | ((with_reducible refine' st_dispC ?fgk ?fgl ?fgh ?fgq); (case fgk => with_reducible assumption); (case fgl => with_reducible assumption); (case fgh => walk_at "dn"); (walk_at "new"))
  | ((with_reducible refine' st_slTs ?fgl ?fgh ?fgq); (case fgl => with_reducible assumption); (case fgh => walk_at "dn"); (walk_at "new"))
  | ((with_reducible refine' st_catTs ?fgl ?fgh ?fgi ?fgz ?fgq); (case fgl => with_reducible assumption); (case fgh => walk_at "dn"); (case fgi => walk_at "dn"); (case fgz => walk_at "sz"); (walk_at "new"))
  | ((with_reducible refine' st_slLs ?fgl ?fgh ?fgq); (case fgl => with_reducible assumption); (case fgh => walk_at "dn"); (walk_at "newL"))
  | ((with_reducible refine' st_catLs ?fgl ?fgh ?fgi ?fgz ?fgq); (case fgl => with_reducible assumption); (case fgh => walk_at "ls"); (case fgi => walk_at "ls"); (case fgz => walk_at "sz"); (walk_at "newL"))
  | with_reducible refine st_neSS ?_
  | with_reducible refine st_eqSS ?_
  | with_reducible refine st_reprBl ?_
  | with_reducible refine st_eqS ?_
  | with_reducible refine st_neS ?_
  | with_reducible refine st_gsub ?_
  | with_reducible refine st_gcons ?_
  | with_reducible refine st_gnil ?_
  | with_reducible refine st_parN ?_
  | with_reducible refine st_two ?_
  | with_reducible refine iteT ?_
  | with_reducible refine iteF ?_
  | with_reducible refine iteNT ?_
  | with_reducible refine iteNF ?_)
local macro_rules | `(tactic| walk_at "fg") => `(tactic| repeat walk_at "fg1")
/- a new object: its heap, and what is known there -/
local macro_rules | `(tactic| walk_at "new") => `(tactic| (intro w H2 s l d; try have st := Stt.same (by with_reducible assumption) s))
local macro_rules | `(tactic| walk_at "newL") => `(tactic| (intro w H2 s l d; have dd := d.dn; try have st := Stt.same (by with_reducible assumption) s))
local macro_rules | `(tactic| walk_at "dig") => `(tactic| ((refine' ⟨_, _, rfl, Stt.pot (by with_reducible assumption), ?_, ?_, ?_⟩); (first | omega | decide); (first | omega | decide); (intro r H' h0 h1 rk pt; have st := Stt.draw (by with_reducible assumption) rk pt; have lv := st.live)))
local macro_rules | `(tactic| walk_at "sz") => `(tactic| first | assumption | (simp only [List.length_cons, List.length_append, List.length_nil, List.length_map]; done) | (simp only [List.length_cons, List.length_append, List.length_nil, List.length_map]; omega) | decide +kernel | omega)
local macro_rules | `(tactic| walk_at "ls") => `(tactic| first
  | with_reducible assumption
  | ((with_reducible refine' ls_same ?fgs ?fgd); (case fgs => with_reducible assumption); (case fgd => walk_at "ls"))
  | ((with_reducible refine' ls_draw ?fgr ?fgt ?fgd); (case fgr => with_reducible assumption); (case fgt => with_reducible assumption); (case fgd => walk_at "ls")))
local macro_rules | `(tactic| walk_at "ixq") => `(tactic| ((refine' st_ixG ?fgl ?fgh ?fge ?fgz ?fg0 ?fgi ?fgq); (case fgl => with_reducible assumption); (case fgh => walk_at "dn"); (case fge => first | assumption | exact rfl); (case fgz => walk_at "sz"); (case fg0 => first | assumption | omega); (case fgi => first | assumption | (refine Int.lt_of_lt_of_le (by assumption) (by decide +kernel)) | (simp only [List.length_cons, List.length_append, List.length_nil]; omega))))
local macro_rules | `(tactic| walk_at "gen") => `(tactic| (intro w x H' px hx rk pt; have st := Stt.draw (by with_reducible assumption) rk pt; have lv := st.live))
local macro_rules | `(tactic| walk_at "itl") => `(tactic| ((refine' st_itLs ?fgd ?fgq); (case fgd => with_reducible assumption)))
local macro_rules | `(tactic| walk_at "sm") => `(tactic| first
  | exact Same.refl _
  | assumption
  | ((with_reducible refine' Same.trans ?fga ?fgb); (case fgb => with_reducible assumption); (case fga => walk_at "sm")))
local macro_rules | `(tactic| walk_at "pot") => `(tactic| first | with_reducible assumption | exact Stt.pot (by with_reducible assumption))
local macro_rules | `(tactic| walk_at "rk") => `(tactic| first
  | exact Rk.refl _ _
  | assumption
  | ((with_reducible refine' Rk.trans ?fga ?fgb); (case fgb => first | assumption | exact Rk.of (by with_reducible assumption)); (case fga => walk_at "rk")))
/- a datum, as it stands now -/
local macro_rules | `(tactic| walk_at "dn") => `(tactic| first
  | with_reducible assumption
  | exact Fg.Dn.int _
  | exact Fg.Dn.str _
  | exact Fg.Dn.bl _
  | exact Fg.Dn.non
  | (with_reducible refine Ls.dn ?_; walk_at "ls")
  | ((with_reducible refine' dn_same ?fgs ?fgd); (case fgs => with_reducible assumption); (case fgd => walk_at "dn"))
  | ((with_reducible refine' dn_draw ?fgr ?fgt ?fgd); (case fgr => with_reducible assumption); (case fgt => with_reducible assumption); (case fgd => walk_at "dn")))
local macro_rules | `(tactic| walk_at "dns") => `(tactic| first
  | with_reducible assumption
  | exact Fg.DnAll.nil
  | ((with_reducible refine' DnAll.cons ?fgh ?fgt); (case fgh => walk_at "dn"); (case fgt => walk_at "dns")))
theorem cal_is_whole {P : Program} {w : World} {K : PySem.W.Frag} {mg : Str → Option Value} {base : Heap} (T : Tx K mg) (F : FnP K "is_whole" s_is_whole)  : Cal P w K mg base "is_whole" 1 ["thing"] (spFn K isWhole) := by
  refine Cal.of F T.g_is_whole sc_is_whole (fun vs H Q E h => ?_) (fun _ _ _ _ _ _ us hl => match us, hl with | [_], _ => rfl) (fun cdv A out s H vs Q E hr h => ?_)
  · obtain ⟨S, v, d, rfl, _⟩ := h
    rfl
  refine ⟨_, (pss_one (ps_ret (pe_and (pe_bB (call_isiB (K := K)) T.b_isinstance bb_isinstance (pa_cons (pv 0) (pa_cons (pe_tyN T.b_int bb_int) pa_nil))) (pe_one (pe_not (pe_bB (call_isiB (K := K)) T.b_isinstance bb_isinstance (pa_cons (pv 0) (pa_cons (pe_tyN T.b_bool bb_bool) pa_nil)))))))), ?_⟩
  try dsimp only [cxOf, Cx.nox, Cx.wish]
  have sK : Sm K := T.sm
  obtain ⟨S, v, d, rfl, hd, hz, q⟩ := h
  have q := q _ (Same.refl _)
  walk_at "fg"
  refine st_isi hd (by decide) ?_
  refine ⟨_, rfl, ?_⟩
  refine ite2 (fun c => ?_) (fun c => ?_)
  · walk_at "fg"
    refine st_isi hd (by decide) ?_
    refine ⟨_, rfl, ?_⟩
    walk_at "fg"
    rw [isWhole, c, Bool.true_and] at q
    exact q
  · walk_at "fg"
    rw [isWhole, eqf c, Bool.false_and] at q
    exact q
theorem cal_is_name {P : Program} {w : World} {K : PySem.W.Frag} {mg : Str → Option Value} {base : Heap} (T : Tx K mg) (F : FnP K "is_name" s_is_name)  : Cal P w K mg base "is_name" 1 ["thing"] (spFn K isName) := by
  refine Cal.of F T.g_is_name sc_is_name (fun vs H Q E h => ?_) (fun _ _ _ _ _ _ us hl => match us, hl with | [_], _ => rfl) (fun cdv A out s H vs Q E hr h => ?_)
  · obtain ⟨S, v, d, rfl, _⟩ := h
    rfl
  refine ⟨_, (pss_cons (ps_if (PW.pt (pw_or (pt_not (pt_val (pe_bB (call_isiB (K := K)) T.b_isinstance bb_isinstance (pa_cons (pv 0) (pa_cons (pe_tyN T.b_str bb_str) pa_nil))))) (pw_or1 (pt_not (pt_chain (op_le) (op_le) pe_int (pe_bB (call_lenB (K := K)) T.b_len bb_len (pa_cons (pv 0) pa_nil)) (pe_gI T.c_MOST_LETTERS)))))) (pss_one (ps_ret pe_bl)) pss_nil)
      (pss_one (ps_ret (pe_bB (cr_allB (K := K) rfl) T.b_all bb_all (pa_cons (pe_lc (own := [("sign", 1)]) (g := gName 1) (tt := tYes) (by rfl) sc_is_name.nd (pi_str (pv 0)) (blkOk_by (own := [("sign", 1)]) (N := ["thing", "sign"]) (sc := defScope s_is_name) (by decide +kernel)) (fun _ _ _ _ _ => (pg_name (i := 1) sc_is_name.nd rfl (Or.inl rfl))) (fun _ _ _ _ _ => pts_nil) (fun _ _ _ _ _ => (pe_cmpR (op_inB T.sm (hu_of hr)) (pv 1) (pe_gS T.c_LETTERS) rfl))) pa_nil))))), ?_⟩
  try dsimp only [cxOf, Cx.nox, Cx.wish]
  have sK : Sm K := T.sm
  obtain ⟨S, v, d, rfl, hd, hz, q⟩ := h
  walk_at "fg"
  refine st_isi hd (by decide) ?_
  walk_at "fg"
  cases hs : tyIs "str" d
  case false =>
    walk_at "fg"
    have e : isName d = false := by cases d <;> first | rfl | simp [tyIs] at hs
    rw [e] at q
    exact q _ (Same.refl _)
  obtain ⟨x, rfl⟩ := ty_str hs
  cases hd.strv
  have hl : x.length ≤ 1000 := by simpa [szD] using hz
  walk_at "fg"
  refine st_lenS (Nat.le_trans hl (by decide)) ?_
  walk_at "fg"
  refine ite2 (fun c1 => ?_) (fun c1 => ?_)
  case' refine_2 =>
    walk_at "fg"
    have e : isName (.str x) = false := by
      have : ¬ 1 ≤ x.length := by simp at c1; omega
      simp [isName, this]
    rw [e] at q
    exact q _ (Same.refl _)
  walk_at "fg"
  refine ite2 (fun c2 => ?_) (fun c2 => ?_)
  · walk_at "fg"
    have e : isName (.str x) = false := by
      have : ¬ x.length ≤ 8 := by simp at c2; omega
      simp [isName, this]
    rw [e] at q
    exact q _ (Same.refl _)
  · walk_at "fg"
    refine lc_fn walk_str (fun i => .bl (decide (x.cps.toList.getD i 0 ∈ letters.cps.toList))) (fun _ _ => trivial) ?_ (fun _ => rfl) (fun i y H1 H2 hi s1 hy => ?_) fun p H2 hp s2 hl2 => ?_
    · show x.length ≤ 100000
      omega
    · obtain ⟨rfl, c, hc, rfl⟩ := hy
      refine ⟨Same.refl _, fun R r => ?_⟩
      walk_at "fg"
      refine st_inC ?_
      have e : x.cps.toList.getD i 0 = c := by
        rw [List.getD_eq_getElem?_getD, Array.getElem?_toList, hc]
        rfl
      rw [e] at r
      exact r _ (Same.refl _)
    · walk_at "fg"
      refine st_allR hl2 ?_
      have e : isName (.str x) = (List.range x.cps.size).all fun i => decide (x.cps.toList.getD i 0 ∈ letters.cps.toList) := by
        have h1 : decide (1 ≤ x.length) = true := by simp at c1 ⊢; omega
        have h2 : decide (x.length ≤ 8) = true := by simp at c2 ⊢; omega
        rw [show x.cps.size = x.cps.toList.length by simp]
        rw [isName, h1, h2, Bool.true_and, Bool.true_and]
        refine (range_all fun i c hc => ?_).symm
        rw [List.getD_eq_getElem?_getD, hc]
        rfl
      rw [← e]
      exact q _ s2
theorem cal_is_event {P : Program} {w : World} {K : PySem.W.Frag} {mg : Str → Option Value} {base : Heap} (T : Tx K mg) (F : FnP K "is_event" s_is_event) (C_is_whole : Cal P w K mg base "is_whole" 1 ["thing"] (spFn K isWhole)) (C_is_name : Cal P w K mg base "is_name" 1 ["thing"] (spFn K isName)) : Cal P w K mg base "is_event" 2 ["thing"] (spFn K isEvent) := by
  refine Cal.of F T.g_is_event sc_is_event (fun vs H Q E h => ?_) (fun _ _ _ _ _ _ us hl => match us, hl with | [_], _ => rfl) (fun cdv A out s H vs Q E hr h => ?_)
  · obtain ⟨S, v, d, rfl, _⟩ := h
    rfl
  refine ⟨_, (pss_cons (ps_if (PW.pt (pw_or (pt_not (pt_val (pe_bB (call_isiB (K := K)) T.b_isinstance bb_isinstance (pa_cons (pv 0) (pa_cons (pe_tyN T.b_tuple bb_tuple) pa_nil))))) (pw_or1 (pt_cmpR (op_neB (K := K) hr.units) (pe_bB (call_lenB (K := K)) T.b_len bb_len (pa_cons (pv 0) pa_nil)) pe_int (nomark _))))) (pss_one (ps_ret pe_bl)) pss_nil)
      (pss_one (ps_ret (pe_and (pe_cmpR (op_inB T.sm (hu_of hr)) (pe_ix (ix_seqB (K := K)) (pv 0) pe_int (fun _ _ => rfl)) (pe_tup (pa_cons (pe_gS T.c_TAKE) (pa_cons (pe_gS T.c_GUESS) (pa_cons (pe_gS T.c_GIVE) pa_nil)))) rfl) (pe_and (pe_cal C_is_name hr (pa_cons (pe_ix (ix_seqB (K := K)) (pv 0) pe_int (fun _ _ => rfl)) pa_nil)) (pe_one (pe_cal C_is_whole hr (pa_cons (pe_ix (ix_seqB (K := K)) (pv 0) pe_int (fun _ _ => rfl)) pa_nil)))))))), ?_⟩
  try dsimp only [cxOf, Cx.nox, Cx.wish]
  have sK : Sm K := T.sm
  obtain ⟨S, v, d, rfl, hd, hz, q⟩ := h
  walk_at "fg"
  refine st_isi hd (by decide) ?_
  walk_at "fg"
  cases hs : tyIs "tuple" d
  case false =>
    walk_at "fg"
    have e : isEvent d = false := by cases d <;> first | rfl | simp [tyIs] at hs
    rw [e] at q
    exact q _ (Same.refl _)
  obtain ⟨ds, rfl⟩ := ty_tup hs
  walk_at "fg"
  refine st_lenT hd ?_
  walk_at "fg"
  refine ite2 (fun c1 => ?_) (fun c1 => ?_)
  · walk_at "fg"
    have e : isEvent (.tuple ds) = false := by
      have : ds.length ≠ 3 := by simp at c1; omega
      match ds, this with
      | [], _ => rfl
      | [_], _ => rfl
      | [_, _], _ => rfl
      | [_, _, _], h => exact absurd rfl h
      | _ :: _ :: _ :: _ :: _, _ => rfl
    rw [e] at q
    exact q _ (Same.refl _)
  have c2 : ds.length = 3 := by simp at c1; omega
  match ds, c2 with
  | [a, b, c], _ =>
  have hz : szAll [a, b, c] = true := by simpa only [szD] using hz
  walk_at "fg"
  refine st_ixT0 (n := 0) hd rfl fun x hx => ?_
  walk_at "fg"
  refine ⟨by decide, fun t ht => ?_⟩
  have s2 := same_new (o := .tup [.str "take", .str "guess", .str "give"]) ht
  refine st_inT (ss := ways) (.inr (.inl (.inl upd_same))) (dn_same s2 hx) ?_
  walk_at "fg"
  have hd2 := dn_same s2 hd
  refine ite2 (fun c3 => ?_) (fun c3 => ?_)
  · walk_at "fg"
    refine st_ixT0 (n := 1) hd2 rfl fun y hy => ?_
    walk_at "fg"
    refine ⟨S, y, b, rfl, hy, szAll_mem hz (by simp), fun H3 s3 => ?_⟩
    walk_at "fg"
    refine ite2 (fun c4 => ?_) (fun c4 => ?_)
    · walk_at "fg"
      refine st_ixT0 (n := 2) (dn_same s3 hd2) rfl fun z hz2 => ?_
      walk_at "fg"
      refine ⟨S, z, c, rfl, hz2, szAll_mem hz (by simp), fun H4 s4 => ?_⟩
      walk_at "fg"
      have e : isEvent (.tuple [a, b, c]) = isWhole c := by rw [isEvent, c3, c4, Bool.true_and, Bool.true_and]
      rw [← e]
      exact q _ (s2.trans (s3.trans s4))
    · walk_at "fg"
      have e : isEvent (.tuple [a, b, c]) = false := by rw [isEvent, eqf c4, Bool.false_and, Bool.and_false]
      rw [e] at q
      exact q _ (s2.trans s3)
  · walk_at "fg"
    have e : isEvent (.tuple [a, b, c]) = false := by rw [isEvent, eqf c3, Bool.false_and]
    rw [e] at q
    exact q _ s2
theorem cal__law_cell {P : Program} {w : World} {K : PySem.W.Frag} {mg : Str → Option Value} {base : Heap} (T : Tx K mg) (F : FnP K "_law_cell" s__law_cell)  : Cal P w K mg base "_law_cell" 1 ["_law_script", "_law_k"] (spCell K) := by
  refine Cal.of F T.g__law_cell sc__law_cell (fun vs H Q E h => ?_) (fun _ _ _ _ _ _ us hl => match us, hl with | [_, _], _ => rfl) (fun cdv A out s H vs Q E hr h => ?_)
  · obtain ⟨a, ns, k, rfl, _⟩ := h
    rfl
  refine ⟨_, (pss_one (ps_ret (pe_ifExp (pt_cmpR (op_lt) (pv 1) (pe_bB (call_lenB (K := K)) T.b_len bb_len (pa_cons (pv 0) pa_nil)) (nomark _)) (pe_ix (ix_seqB (K := K)) (pv 0) (pv 1) (fun _ _ => rfl)) pe_int))), ?_⟩
  try dsimp only [cxOf, Cx.nox, Cx.wish]
  have sK : Sm K := T.sm
  obtain ⟨a, ns, k, rfl, hs, h0, q⟩ := h
  walk_at "fg"
  refine st_lenR hs ?_
  walk_at "fg"
  refine ite2 (fun c => ?_) (fun c => ?_)
  · walk_at "fg"
    refine st_ixSq hs h0 (by simpa using c) fun w e => ?_
    rw [List.getElem?_map] at e
    cases hn : ns[k.toNat]? with
    | none =>
      rw [hn] at e
      cases e
    | some i =>
      rw [hn] at e
      cases e
      exact q i
  · walk_at "fg"
    exact q 0
theorem cal__law_start {P : Program} {w : World} {K : PySem.W.Frag} {mg : Str → Option Value} {base : Heap} (T : Tx K mg) (F : FnP K "_law_start" s__law_start)  : Cal P w K mg base "_law_start" 1 ["_law_cell_here", "_law_k"] (spStart) := by
  refine Cal.of F T.g__law_start sc__law_start (fun vs H Q E h => ?_) (fun _ _ _ _ _ _ us hl => match us, hl with | [_, _], _ => rfl) (fun cdv A out s H vs Q E hr h => ?_)
  · obtain ⟨c, k, rfl, _⟩ := h
    rfl
  refine ⟨_, (pss_one (ps_ret (pe_lst (pa_cons (pe_bB (call_maxU rfl) T.b_max bb_max (pa_cons pe_int (pa_cons (pe_op op_sub (pe_bB (call_absU) T.b_abs bb_abs (pa_cons (pv 0) pa_nil)) (pe_op op_pow pe_int pe_int)) pa_nil))) (pa_cons (pe_op (op_addB (K := K)) (pe_op (op_addB (K := K)) (pe_op op_mod (pe_bB (call_absU) T.b_abs bb_abs (pa_cons (pv 0) pa_nil)) pe_int) (pe_op op_mulU pe_int (pv 1))) pe_int) pa_nil))))), ?_⟩
  try dsimp only [cxOf, Cx.nox, Cx.wish]
  have sK : Sm K := T.sm
  obtain ⟨c, k, rfl, h0, h1, q⟩ := h
  walk_at "fg"
  refine st_I ⟨by decide, by decide, by decide⟩ ?_
  walk_at "fg"
  refine st_I (by decide) ?_
  walk_at "fg"
  refine st_mulI (.inr ⟨by omega, by omega⟩) ?_
  walk_at "fg"
  refine st_rawL (by simp) fun p H2 hp s2 e2 => ?_
  have e0 := Int.emod_nonneg (if c < 0 then -c else c) (show (2147483563 : Int) ≠ 0 by decide)
  have e1 := Int.emod_lt_of_pos (if c < 0 then -c else c) (show (0 : Int) < 2147483563 by decide)
  refine q p H2 hp s2 ⟨_, _, e2, ?_, by omega, by omega⟩
  split <;> omega
theorem cal__law_digit {P : Program} {w : World} {K : PySem.W.Frag} {mg : Str → Option Value} {base : Heap} (T : Tx K mg) (F : FnP K "_law_digit" s__law_digit)  : Cal P w K mg base "_law_digit" 1 ["_law_pot", "_law_size"] (spDigit) := by
  refine Cal.of F T.g__law_digit sc__law_digit (fun vs H Q E h => ?_) (fun _ _ _ _ _ _ us hl => match us, hl with | [_, _], _ => rfl) (fun cdv A out s H vs Q E hr h => ?_)
  · obtain ⟨p, n, rfl, _⟩ := h
    rfl
  refine ⟨_, (pss_cons (ps_if (pt_cmpR (op_gt) (pe_ix (ix_seqB (K := K)) (pv 0) pe_int (fun _ _ => rfl)) pe_int (nomark _)) (pss_cons (ps_asg (pe_bB (call_divmodU) T.b_divmod bb_divmod (pa_cons (pe_ix (ix_seqB (K := K)) (pv 0) pe_int (fun _ _ => rfl)) (pa_cons (pv 1) pa_nil))) (pg_tup (by rfl) (pgs_cons (pg_sub (pv 0) pe_int set_list) (pgs_cons (pg_name (i := 2) sc__law_digit.nd rfl (Or.inl rfl)) pgs_nil))))
      (pss_one (ps_ret (pv 2)))) pss_nil)
      (pss_cons (ps_asg (pe_op op_mod (pe_op (op_addB (K := K)) (pe_op op_mulU (pe_ix (ix_seqB (K := K)) (pv 0) pe_int (fun _ _ => rfl)) pe_int) pe_int) pe_int) (pg_sub (pv 0) pe_int set_list))
      (pss_one (ps_ret (pe_op op_mod (pe_op op_fdiv (pe_op op_mod (pe_op op_mulU (pe_ix (ix_seqB (K := K)) (pv 0) pe_int (fun _ _ => rfl)) (pe_ix (ix_seqB (K := K)) (pv 0) pe_int (fun _ _ => rfl))) pe_int) pe_int) (pv 1)))))), ?_⟩
  try dsimp only [cxOf, Cx.nox, Cx.wish]
  have sK : Sm K := T.sm
  obtain ⟨p, n, rfl, ⟨a, b, hp, ha, hb, hb2⟩, h0, h1, k⟩ := h
  walk_at "fg"
  refine st_ixR (i := 0) hp rfl ?_
  walk_at "fg"
  refine ite2 (fun c => ?_) (fun c => ?_)
  · walk_at "fg"
    refine st_ixR (i := 0) hp rfl ?_
    walk_at "fg"
    refine ⟨a, n, rfl, divp_small h0 h1, fun t ht => ?_⟩
    have pt : p ≠ t := ne_of_none hp ht
    refine st_gtupR upd_same rfl ?_
    walk_at "fg"
    refine st_setR (j := 0) ((upd_ne pt).trans hp) rfl ?_
    walk_at "fg"
    refine k _ _ (Int.emod_nonneg _ (by omega)) (Int.emod_lt_of_pos _ h0) ((Rk.of (same_new ht)).trans (Rk.wr (List.mem_singleton.mpr rfl))) ⟨_, _, upd_same, Int.ediv_nonneg ha (by omega), hb, hb2⟩
  · walk_at "fg"
    refine st_ixR (i := 1) hp rfl ?_
    walk_at "fg"
    refine st_mulI (.inr ⟨by decide, by decide⟩) ?_
    walk_at "fg"
    refine st_I (by decide) ?_
    walk_at "fg"
    refine st_setR (j := 1) hp rfl ?_
    walk_at "fg"
    have e0 := Int.emod_nonneg (b * 39373 + 9311) (show (2147483629 : Int) ≠ 0 by decide)
    have e1 := Int.emod_lt_of_pos (b * 39373 + 9311) (show (0 : Int) < 2147483629 by decide)
    refine st_ixR (i := 1) upd_same rfl ?_
    walk_at "fg"
    refine st_ixR (i := 1) upd_same rfl ?_
    refine st_mulI (.inr ⟨by omega, by omega⟩) ?_
    walk_at "fg"
    refine st_I (by decide) ?_
    walk_at "fg"
    refine st_I ⟨by decide, by decide⟩ ?_
    walk_at "fg"
    refine st_I h0 ?_
    walk_at "fg"
    exact k _ _ (Int.emod_nonneg _ (by omega)) (Int.emod_lt_of_pos _ h0) (Rk.wr (List.mem_singleton.mpr rfl)) ⟨_, _, upd_same, ha, e0, by omega⟩
theorem cal__law_pick {P : Program} {w : World} {K : PySem.W.Frag} {mg : Str → Option Value} {base : Heap} (T : Tx K mg) (F : FnP K "_law_pick" s__law_pick) (C__law_digit : Cal P w K mg base "_law_digit" 1 ["_law_pot", "_law_size"] (spDigit)) : Cal P w K mg base "_law_pick" 2 ["_law_pot", "_law_some"] (spPick K) := by
  refine Cal.of F T.g__law_pick sc__law_pick (fun vs H Q E h => ?_) (fun _ _ _ _ _ _ us hl => match us, hl with | [_, _], _ => rfl) (fun cdv A out s H vs Q E hr h => ?_)
  · obtain ⟨S, p, v, d, ds, rfl, _⟩ := h
    rfl
  refine ⟨_, (pss_one (ps_ret (pe_ix (ix_seqB (K := K)) (pv 1) (pe_cal C__law_digit hr (pa_cons (pv 0) (pa_cons (pe_bB (call_lenB (K := K)) T.b_len bb_len (pa_cons (pv 1) pa_nil)) pa_nil))) (fun _ _ => rfl)))), ?_⟩
  try dsimp only [cxOf, Cx.nox, Cx.wish]
  have sK : Sm K := T.sm
  obtain ⟨S, p, v, d, ds, rfl, st, hd, hs, hz, hl, q⟩ := h
  walk_at "fg"
  refine st_lenQ hd hs hz ?_
  walk_at "fg"
  walk_at "dig"
  refine st_ixQ (by walk_at "dn") hs hz (by assumption) (by omega) fun w x m _ hx => ?_
  exact q w x _ m hx (by assumption) (by assumption)
theorem cal__law_text {P : Program} {w : World} {K : PySem.W.Frag} {mg : Str → Option Value} {base : Heap} (T : Tx K mg) (F : FnP K "_law_text" s__law_text) (C__law_digit : Cal P w K mg base "_law_digit" 1 ["_law_pot", "_law_size"] (spDigit)) (C__law_pick : Cal P w K mg base "_law_pick" 2 ["_law_pot", "_law_some"] (spPick K)) : Cal P w K mg base "_law_text" 3 ["_law_pot"] (spGen K (isText 30)) := by
  refine Cal.of F T.g__law_text sc__law_text (fun vs H Q E h => ?_) (fun _ _ _ _ _ _ us hl => match us, hl with | [_], _ => rfl) (fun cdv A out s H vs Q E hr h => ?_)
  · obtain ⟨S, p, rfl, _⟩ := h
    rfl
  refine ⟨_, (pss_cons (ps_asg pe_str (pg_name (i := 1) sc__law_text.nd rfl (Or.inr rfl)))
      (pss_cons (ps_asg (pe_ix (ix_seqB (K := K)) (pe_lst (pa_cons (pe_cal C__law_digit hr (pa_cons (pv 0) (pa_cons pe_int pa_nil))) (pa_cons pe_int (pa_cons pe_int (pa_cons pe_int pa_nil))))) (pe_cal C__law_digit hr (pa_cons (pv 0) (pa_cons pe_int pa_nil))) (fun _ _ => rfl)) (pg_name (i := 2) sc__law_text.nd rfl (Or.inl rfl)))
      (pss_cons (ps_asg (pe_joinB (K := K) pe_str (pe_lc (own := [("_law_k", 5)]) (g := gName 5) (tt := tYes) (by rfl) sc__law_text.nd (pi_range1 (by rfl) T.b_range (pa_cons (pv 2) pa_nil)) (blkOk_by (own := [("_law_k", 5)]) (N := ["_law_pot", "_law_letters", "_law_size", "_law_found", "_law_at", "_law_k"]) (sc := defScope s__law_text) (by decide +kernel)) (fun _ _ _ _ _ => (pg_name (i := 5) sc__law_text.nd rfl (Or.inl rfl))) (fun _ _ _ _ _ => pts_nil) (fun _ _ _ _ _ => (pe_ix (ix_seqB (K := K)) (pv 1) (pe_cal C__law_digit hr (pa_cons (pv 0) (pa_cons pe_int pa_nil))) (fun _ _ => rfl))))) (pg_name (i := 3) sc__law_text.nd rfl (Or.inl rfl)))
      (pss_cons (ps_if (PW.pt (pw_and (pt_cmpR (op_neB (K := K) hr.units) (pv 3) pe_str (nomark _)) (pw_and1 (pt_cmpR (op_eqB (K := K) hr.units) (pe_cal C__law_digit hr (pa_cons (pv 0) (pa_cons pe_int pa_nil))) pe_int (nomark _))))) (pss_cons (ps_asg (pe_cal C__law_digit hr (pa_cons (pv 0) (pa_cons (pv 2) pa_nil))) (pg_name (i := 4) sc__law_text.nd rfl (Or.inl rfl)))
      (pss_one (ps_asg (pe_op (op_addB (K := K)) (pe_op (op_addB (K := K)) (pe_slice (sl_B (K := K)) (pv 3) po_none (po_some (pv 4))) (pe_cal C__law_pick hr (pa_cons (pv 0) (pa_cons pe_str pa_nil)))) (pe_slice (sl_B (K := K)) (pv 3) (po_some (pe_op (op_addB (K := K)) (pv 4) pe_int)) po_none)) (pg_name (i := 3) sc__law_text.nd rfl (Or.inl rfl))))) pss_nil)
      (pss_one (ps_ret (pv 3))))))), ?_⟩
  try dsimp only [cxOf, Cx.nox, Cx.wish]
  have sK : Sm K := T.sm
  obtain ⟨S, p, rfl, st, q⟩ := h
  have lv := st.live
  walk_at "fg"
  walk_at "dig"
  walk_at "fg"
  walk_at "dig"
  walk_at "ixq"
  intro w x m hx
  obtain ⟨n, rfl, n0, n1⟩ : ∃ n : Int, x = .int n ∧ 0 ≤ n ∧ n ≤ 10 := by
    simp only [List.mem_cons, List.not_mem_nil, or_false] at m
    rcases m with rfl | rfl | rfl | rfl <;> exact ⟨_, rfl, by omega, by omega⟩
  cases hx.intv
  walk_at "fg"
  refine st_rngI n0 (by omega) ?_
  refine lc_draw (K := K) (by assumption) walk_range (fun _ d => ∃ c, d = .str ⟨#[c]⟩) (fun _ _ => trivial) (by omega) (fun _ => rfl) (fun D i x H1 H2 hD hi r1 s1 hy => ?_) fun t ds H2 r2 s2 l2 P2 d2 => ?_
  · obtain ⟨rfl, rfl⟩ := hy
    refine ⟨Same.refl _, fun R k => ?_⟩
    have lv1 := s1.live
    walk_at "fg"
    walk_at "dig"
    walk_at "ixq"
    intro w x m hx
    obtain ⟨c, _, rfl⟩ := sign_of m
    exact k w _ _ (by assumption) (by assumption) hx ⟨c, rfl⟩
  obtain ⟨xs, rfl, o1, o2, o3⟩ := ones_of (ones_at P2)
  have lv2 := s2.live
  walk_at "fg"
  refine st_join d2 ?_ ?_
  · rw [o2, l2]
    have : (Str.ofString "").length = 0 := by decide
    rw [this]
    omega
  generalize hf : Txt.join (Str.ofString "") xs = f
  have fl : f.length = n.toNat := by rw [← hf, join_ones_len xs o1, o3, l2]
  walk_at "fg"
  refine ite2 (fun c => ?_) (fun c => ?_)
  case' refine_2 =>
    walk_at "fg"
    refine q _ _ _ ⟨f, rfl, by omega⟩ (.str f) (by walk_at "rk") (by walk_at "pot")
  walk_at "fg"
  walk_at "dig"
  walk_at "fg"
  refine ite2 (fun c3 => ?_) (fun c3 => ?_)
  case' refine_2 =>
    walk_at "fg"
    refine q _ _ _ ⟨f, rfl, by omega⟩ (.str f) (by walk_at "rk") (by walk_at "pot")
  have np : 0 < n := by
    refine Int.lt_of_not_ge fun h => ?_
    have : f.length = 0 := by omega
    simp [str_nil this] at c
  walk_at "fg"
  walk_at "dig"
  walk_at "fg"
  refine st_slS (Nat.le_trans (show f.length ≤ 100 by omega) (by decide)) ?_
  walk_at "fg"
  refine ⟨S, p, _, _, _, rfl, by assumption, .str _, rfl, by decide +kernel, by decide +kernel, fun w x H' m hx rk pt => ?_⟩
  have st3 := Stt.draw (by assumption) rk pt
  obtain ⟨c, _, rfl⟩ := sign_of m
  cases hx.strv
  refine st_addS (Nat.le_trans (show _ ≤ 100 from ?_) (by decide)) ?_
  · show _ + 1 ≤ 100
    exact Nat.le_trans (Nat.add_le_add_right (cutS_length f _ _) 1) (by omega)
  walk_at "fg"
  refine st_slS (Nat.le_trans (show f.length ≤ 100 by omega) (by decide)) ?_
  have k3 : ∀ a b, (cutS f none a ++ (⟨#[c]⟩ : Str)).length + (cutS f b none).length ≤ 30 := fun a b => by
    rw [Fg.len_cat]
    have := cutS_length f none a
    have := cutS_length f b none
    have : (⟨#[c]⟩ : Str).length = 1 := rfl
    omega
  refine st_addS (Nat.le_trans (k3 _ _) (by decide)) ?_
  walk_at "fg"
  refine q _ _ _ ⟨_, rfl, ?_⟩ (.str _) (by walk_at "rk") (by walk_at "pot")
  rw [Fg.len_cat]
  exact k3 _ _
theorem cal__law_is_name {P : Program} {w : World} {K : PySem.W.Frag} {mg : Str → Option Value} {base : Heap} (T : Tx K mg) (F : FnP K "_law_is_name" s__law_is_name)  : Cal P w K mg base "_law_is_name" 1 ["_law_thing"] (spFn K isName) := by
  refine Cal.of F T.g__law_is_name sc__law_is_name (fun vs H Q E h => ?_) (fun _ _ _ _ _ _ us hl => match us, hl with | [_], _ => rfl) (fun cdv A out s H vs Q E hr h => ?_)
  · obtain ⟨S, v, d, rfl, _⟩ := h
    rfl
  refine ⟨_, (pss_cons (ps_if (PW.pt (pw_or (pt_not (pt_val (pe_bB (call_isiB (K := K)) T.b_isinstance bb_isinstance (pa_cons (pv 0) (pa_cons (pe_tyN T.b_str bb_str) pa_nil))))) (pw_or1 (pt_not (pt_chain (op_le) (op_le) pe_int (pe_bB (call_lenB (K := K)) T.b_len bb_len (pa_cons (pv 0) pa_nil)) pe_int))))) (pss_one (ps_ret pe_bl)) pss_nil)
      (pss_one (ps_ret (pe_bB (cr_allB (K := K) rfl) T.b_all bb_all (pa_cons (pe_lc (own := [("_law_sign", 1)]) (g := gName 1) (tt := tYes) (by rfl) sc__law_is_name.nd (pi_str (pv 0)) (blkOk_by (own := [("_law_sign", 1)]) (N := ["_law_thing", "_law_sign"]) (sc := defScope s__law_is_name) (by decide +kernel)) (fun _ _ _ _ _ => (pg_name (i := 1) sc__law_is_name.nd rfl (Or.inl rfl))) (fun _ _ _ _ _ => pts_nil) (fun _ _ _ _ _ => (pe_cmpR (op_inB T.sm (hu_of hr)) (pv 1) pe_str rfl))) pa_nil))))), ?_⟩
  try dsimp only [cxOf, Cx.nox, Cx.wish]
  have sK : Sm K := T.sm
  obtain ⟨S, v, d, rfl, hd, hz, q⟩ := h
  walk_at "fg"
  refine st_isi hd (by decide) ?_
  walk_at "fg"
  cases hs : tyIs "str" d
  case false =>
    walk_at "fg"
    have e : isName d = false := by cases d <;> first | rfl | simp [tyIs] at hs
    rw [e] at q
    exact q _ (Same.refl _)
  obtain ⟨x, rfl⟩ := ty_str hs
  cases hd.strv
  have hl : x.length ≤ 1000 := by simpa [szD] using hz
  walk_at "fg"
  refine st_lenS (Nat.le_trans hl (by decide)) ?_
  walk_at "fg"
  refine ite2 (fun c1 => ?_) (fun c1 => ?_)
  case' refine_2 =>
    walk_at "fg"
    have e : isName (.str x) = false := by
      have : ¬ 1 ≤ x.length := by simp at c1; omega
      simp [isName, this]
    rw [e] at q
    exact q _ (Same.refl _)
  walk_at "fg"
  refine ite2 (fun c2 => ?_) (fun c2 => ?_)
  · walk_at "fg"
    have e : isName (.str x) = false := by
      have : ¬ x.length ≤ 8 := by simp at c2; omega
      simp [isName, this]
    rw [e] at q
    exact q _ (Same.refl _)
  · walk_at "fg"
    refine lc_fn walk_str (fun i => .bl (decide (x.cps.toList.getD i 0 ∈ letters.cps.toList))) (fun _ _ => trivial) ?_ (fun _ => rfl) (fun i y H1 H2 hi s1 hy => ?_) fun p H2 hp s2 hl2 => ?_
    · show x.length ≤ 100000
      omega
    · obtain ⟨rfl, c, hc, rfl⟩ := hy
      refine ⟨Same.refl _, fun R r => ?_⟩
      walk_at "fg"
      refine st_inC ?_
      have e : x.cps.toList.getD i 0 = c := by
        rw [List.getD_eq_getElem?_getD, Array.getElem?_toList, hc]
        rfl
      rw [e] at r
      exact r _ (Same.refl _)
    · walk_at "fg"
      refine st_allR hl2 ?_
      have e : isName (.str x) = (List.range x.cps.size).all fun i => decide (x.cps.toList.getD i 0 ∈ letters.cps.toList) := by
        have h1 : decide (1 ≤ x.length) = true := by simp at c1 ⊢; omega
        have h2 : decide (x.length ≤ 8) = true := by simp at c2 ⊢; omega
        rw [show x.cps.size = x.cps.toList.length by simp]
        rw [isName, h1, h2, Bool.true_and, Bool.true_and]
        refine (range_all fun i c hc => ?_).symm
        rw [List.getD_eq_getElem?_getD, hc]
        rfl
      rw [← e]
      exact q _ s2
theorem cal__law_is_event {P : Program} {w : World} {K : PySem.W.Frag} {mg : Str → Option Value} {base : Heap} (T : Tx K mg) (F : FnP K "_law_is_event" s__law_is_event) (C__law_is_name : Cal P w K mg base "_law_is_name" 1 ["_law_thing"] (spFn K isName)) : Cal P w K mg base "_law_is_event" 2 ["_law_thing"] (spFn K isEvent) := by
  refine Cal.of F T.g__law_is_event sc__law_is_event (fun vs H Q E h => ?_) (fun _ _ _ _ _ _ us hl => match us, hl with | [_], _ => rfl) (fun cdv A out s H vs Q E hr h => ?_)
  · obtain ⟨S, v, d, rfl, _⟩ := h
    rfl
  refine ⟨_, (pss_cons (ps_if (PW.pt (pw_or (pt_not (pt_val (pe_bB (call_isiB (K := K)) T.b_isinstance bb_isinstance (pa_cons (pv 0) (pa_cons (pe_tyN T.b_tuple bb_tuple) pa_nil))))) (pw_or (pt_cmpR (op_neB (K := K) hr.units) (pe_bB (call_lenB (K := K)) T.b_len bb_len (pa_cons (pv 0) pa_nil)) pe_int (nomark _)) (pw_or1 (pt_cmpR (op_notInB T.sm (hu_of hr)) (pe_ix (ix_seqB (K := K)) (pv 0) pe_int (fun _ _ => rfl)) (pe_lst (pa_cons pe_str (pa_cons pe_str (pa_cons pe_str pa_nil)))) rfl))))) (pss_one (ps_ret pe_bl)) pss_nil)
      (pss_one (ps_ret (pe_and (pe_cal C__law_is_name hr (pa_cons (pe_ix (ix_seqB (K := K)) (pv 0) pe_int (fun _ _ => rfl)) pa_nil)) (pe_and (pe_bB (call_isiB (K := K)) T.b_isinstance bb_isinstance (pa_cons (pe_ix (ix_seqB (K := K)) (pv 0) pe_int (fun _ _ => rfl)) (pa_cons (pe_tyN T.b_int bb_int) pa_nil))) (pe_one (pe_not (pe_bB (call_isiB (K := K)) T.b_isinstance bb_isinstance (pa_cons (pe_ix (ix_seqB (K := K)) (pv 0) pe_int (fun _ _ => rfl)) (pa_cons (pe_tyN T.b_bool bb_bool) pa_nil)))))))))), ?_⟩
  try dsimp only [cxOf, Cx.nox, Cx.wish]
  have sK : Sm K := T.sm
  obtain ⟨S, v, d, rfl, hd, hz, q⟩ := h
  walk_at "fg"
  refine st_isi hd (by decide) ?_
  walk_at "fg"
  cases hs : tyIs "tuple" d
  case false =>
    walk_at "fg"
    have e : isEvent d = false := by cases d <;> first | rfl | simp [tyIs] at hs
    rw [e] at q
    exact q _ (Same.refl _)
  obtain ⟨ds, rfl⟩ := ty_tup hs
  walk_at "fg"
  refine st_lenT hd ?_
  walk_at "fg"
  refine ite2 (fun c1 => ?_) (fun c1 => ?_)
  · walk_at "fg"
    have e : isEvent (.tuple ds) = false := by
      have : ds.length ≠ 3 := by simp at c1; omega
      match ds, this with
      | [], _ => rfl
      | [_], _ => rfl
      | [_, _], _ => rfl
      | [_, _, _], h => exact absurd rfl h
      | _ :: _ :: _ :: _ :: _, _ => rfl
    rw [e] at q
    exact q _ (Same.refl _)
  have c2 : ds.length = 3 := by simp at c1; omega
  match ds, c2 with
  | [a, b, c], _ =>
  have hz : szAll [a, b, c] = true := by simpa only [szD] using hz
  walk_at "fg"
  refine st_ixT0 (n := 0) hd rfl fun x hx => ?_
  walk_at "fg"
  refine ⟨by decide, fun t ht => ?_⟩
  have s2 := same_new (o := .lst [.str "take", .str "guess", .str "give"]) ht
  refine st_notInT (ss := ways) (.inl (SqL.of upd_same)) (dn_same s2 hx) ?_
  walk_at "fg"
  have hd2 := dn_same s2 hd
  refine ite2 (fun c3 => ?_) (fun c3 => ?_)
  · walk_at "fg"
    have c3 : (ways.any fun z => isTxt z a) = false := by simpa using c3
    have e : isEvent (.tuple [a, b, c]) = false := by rw [isEvent, c3, Bool.false_and]
    rw [e] at q
    exact q _ s2
  · have c3 : (ways.any fun z => isTxt z a) = true := by simpa using c3
    walk_at "fg"
    refine st_ixT0 (n := 1) hd2 rfl fun y hy => ?_
    walk_at "fg"
    refine ⟨S, y, b, rfl, hy, szAll_mem hz (by simp), fun H3 s3 => ?_⟩
    walk_at "fg"
    refine ite2 (fun c4 => ?_) (fun c4 => ?_)
    · walk_at "fg"
      refine st_ixT0 (n := 2) (dn_same s3 hd2) rfl fun z hz2 => ?_
      walk_at "fg"
      refine st_isi hz2 (by decide) ?_
      refine ⟨_, rfl, ?_⟩
      have e : isEvent (.tuple [a, b, c]) = isWhole c := by rw [isEvent, c3, c4, Bool.true_and, Bool.true_and]
      have q := q _ (s2.trans s3)
      rw [e] at q
      refine ite2 (fun c5 => ?_) (fun c5 => ?_)
      · walk_at "fg"
        refine st_ixT0 (n := 2) (dn_same s3 hd2) rfl fun z hz2 => ?_
        walk_at "fg"
        refine st_isi hz2 (by decide) ?_
        refine ⟨_, rfl, ?_⟩
        walk_at "fg"
        rw [isWhole, c5, Bool.true_and] at q
        exact q
      · walk_at "fg"
        rw [isWhole, eqf c5, Bool.false_and] at q
        exact q
    · walk_at "fg"
      have e : isEvent (.tuple [a, b, c]) = false := by rw [isEvent, eqf c4, Bool.false_and, Bool.and_false]
      rw [e] at q
      exact q _ (s2.trans s3)
theorem cal__law_some_event {P : Program} {w : World} {K : PySem.W.Frag} {mg : Str → Option Value} {base : Heap} (T : Tx K mg) (F : FnP K "_law_some_event" s__law_some_event) (C__law_text : Cal P w K mg base "_law_text" 3 ["_law_pot"] (spGen K (isText 30))) (C__law_digit : Cal P w K mg base "_law_digit" 1 ["_law_pot", "_law_size"] (spDigit)) : Cal P w K mg base "_law_some_event" 4 ["_law_pot"] (spGen K anEvent) := by
  refine Cal.of F T.g__law_some_event sc__law_some_event (fun vs H Q E h => ?_) (fun _ _ _ _ _ _ us hl => match us, hl with | [_], _ => rfl) (fun cdv A out s H vs Q E hr h => ?_)
  · obtain ⟨S, p, rfl, _⟩ := h
    rfl
  refine ⟨_, (pss_cons (ps_asg (pe_ix (ix_seqB (K := K)) (pe_lst (pa_cons (pe_op op_sub (pe_cal C__law_digit hr (pa_cons (pv 0) (pa_cons pe_int pa_nil))) pe_int) (pa_cons (pe_op op_sub (pe_cal C__law_digit hr (pa_cons (pv 0) (pa_cons (pe_op op_pow pe_int pe_int) pa_nil))) (pe_op op_pow pe_int pe_int)) pa_nil))) (pe_cal C__law_digit hr (pa_cons (pv 0) (pa_cons pe_int pa_nil))) (fun _ _ => rfl)) (pg_name (i := 1) sc__law_some_event.nd rfl (Or.inl rfl)))
      (pss_one (ps_ret (pe_tup (pa_cons (pe_ix (ix_seqB (K := K)) (pe_lst (pa_cons pe_str (pa_cons pe_str (pa_cons pe_str pa_nil)))) (pe_cal C__law_digit hr (pa_cons (pv 0) (pa_cons pe_int pa_nil))) (fun _ _ => rfl)) (pa_cons (pe_cal C__law_text hr (pa_cons (pv 0) pa_nil)) (pa_cons (pv 1) pa_nil))))))), ?_⟩
  try dsimp only [cxOf, Cx.nox, Cx.wish]
  have sK : Sm K := T.sm
  obtain ⟨S, p, rfl, st, q⟩ := h
  have lv := st.live
  walk_at "fg"
  walk_at "dig"
  walk_at "fg"
  refine st_I ⟨by decide, by decide, by decide⟩ ?_
  have e30 : (10 : Int) ^ Int.toNat 30 = 1000000000000000000000000000000 := by decide
  have e29 : (10 : Int) ^ Int.toNat 29 = 100000000000000000000000000000 := by decide
  rw [e30]
  walk_at "fg"
  walk_at "dig"
  walk_at "fg"
  refine st_I ⟨by decide, by decide, by decide⟩ ?_
  rw [e29]
  walk_at "fg"
  walk_at "dig"
  walk_at "ixq"
  intro w x m hx
  obtain ⟨n, rfl, hn⟩ : ∃ n : Int, x = .int n ∧ n.natAbs < 10 ^ 40 := by
    simp only [List.mem_cons, List.not_mem_nil, or_false] at m
    rcases m with rfl | rfl <;> exact ⟨_, rfl, by omega⟩
  cases hx.intv
  walk_at "fg"
  walk_at "dig"
  walk_at "ixq"
  intro w x m hx
  have tx : isText 30 x := by
    simp only [List.mem_cons, List.not_mem_nil, or_false] at m
    rcases m with rfl | rfl | rfl <;> exact ⟨_, rfl, by decide +kernel⟩
  walk_at "fg"
  refine ⟨S, p, rfl, by with_reducible assumption, ?_⟩
  intro w2 y H2 ty hy rk2 pt2
  have st2 := Stt.draw (by with_reducible assumption) rk2 pt2
  have lv2 := st2.live
  walk_at "fg"
  exact q _ _ _ ⟨x, y, n, rfl, tx, ty, hn⟩ (by walk_at "dn") (by walk_at "rk") (by walk_at "pot")
theorem cal__law_odd_thing {P : Program} {w : World} {K : PySem.W.Frag} {mg : Str → Option Value} {base : Heap} (T : Tx K mg) (F : FnP K "_law_odd_thing" s__law_odd_thing) (C__law_pick : Cal P w K mg base "_law_pick" 2 ["_law_pot", "_law_some"] (spPick K)) : Cal P w K mg base "_law_odd_thing" 3 ["_law_pot", "_law_part"] (spGenA K ptOk (fun _ => short)) := by
  refine Cal.of F T.g__law_odd_thing sc__law_odd_thing (fun vs H Q E h => ?_) (fun _ _ _ _ _ _ us hl => match us, hl with | [_, _], _ => rfl) (fun cdv A out s H vs Q E hr h => ?_)
  · obtain ⟨S, p, v, d, rfl, _⟩ := h
    rfl
  refine ⟨_, (pss_cons (ps_asg (pe_lst (pa_cons pe_str (pa_cons pe_str (pa_cons pe_str (pa_cons pe_str (pa_cons pe_str (pa_cons pe_str (pa_cons pe_str (pa_cons pe_non (pa_cons pe_bl (pa_cons pe_bl (pa_cons pe_int (pa_cons pe_int (pa_cons pe_str (pa_cons (pe_tup pa_nil) (pa_cons (pe_lst pa_nil) (pa_cons pe_dnewK (pa_cons (pe_disp (pps_cons pe_str pe_int pps_nil) (by rfl) (by rfl) (fun z => by cases z) (by decide)) pa_nil)))))))))))))))))) (pg_name (i := 2) sc__law_odd_thing.nd rfl (Or.inl rfl)))
      (pss_one (ps_ret (pe_cal C__law_pick hr (pa_cons (pv 0) (pa_cons (pe_op (op_addB (K := K)) (pv 2) (pe_lst (pa_cons (pe_lst (pa_cons (pv 1) pa_nil)) (pa_cons (pe_tup (pa_cons (pv 1) pa_nil)) (pa_cons (pe_op (op_addB (K := K)) (pe_bT call_strD T.b_str bb_str (pa_cons (pv 1) pa_nil)) pe_str) (pa_cons pe_str (pa_cons pe_str pa_nil))))))) pa_nil)))))), ?_⟩
  try dsimp only [cxOf, Cx.nox, Cx.wish]
  have sK : Sm K := T.sm
  obtain ⟨S, p, v, d, rfl, st, hd, ok, q⟩ := h
  have lv := st.live
  walk_at "fg"
  refine st_strP (by walk_at "dn") ok fun y hy => ?_
  have sp1 : (Str.ofString " ").length = 1 := by decide
  refine st_addS (Nat.le_trans (show _ ≤ 100 by omega) (by decide)) ?_
  walk_at "fg"
  refine ⟨S, p, _, _, _, rfl, by with_reducible assumption, by walk_at "dn", rfl, by walk_at "sz", by walk_at "sz", ?_⟩
  intro w x H' m hx rk pt
  refine q _ _ _ (szAll_mem ?_ m) hx (by walk_at "rk") pt
  rw [szAll_append]
  have e1 := ok.sz
  have e2 : szD (.str (y ++ Str.ofString " ")) = true := szD_cat (by omega)
  have e3 : szD (.str (Str.ofString "take")) = true := by decide +kernel
  have e4 : szD (.str (Str.ofString "give")) = true := by decide +kernel
  rw [Bool.and_eq_true]
  refine ⟨by decide +kernel, ?_⟩
  have f1 : szD (.list [d]) = true := szL fun x m => by rw [List.mem_singleton.mp m]; exact e1
  have f2 : szD (.tuple [d]) = true := szT fun x m => by rw [List.mem_singleton.mp m]; exact e1
  simp only [szAll, f1, f2, e2, e3, e4, Bool.and_true]
theorem cal__law_otherwise {P : Program} {w : World} {K : PySem.W.Frag} {mg : Str → Option Value} {base : Heap} (T : Tx K mg) (F : FnP K "_law_otherwise" s__law_otherwise) (C__law_odd_thing : Cal P w K mg base "_law_odd_thing" 3 ["_law_pot", "_law_part"] (spGenA K ptOk (fun _ => short))) (C__law_digit : Cal P w K mg base "_law_digit" 1 ["_law_pot", "_law_size"] (spDigit)) : Cal P w K mg base "_law_otherwise" 4 ["_law_pot", "_law_event"] (spGenA K anEvent (fun _ => short)) := by
  refine Cal.of F T.g__law_otherwise sc__law_otherwise (fun vs H Q E h => ?_) (fun _ _ _ _ _ _ us hl => match us, hl with | [_, _], _ => rfl) (fun cdv A out s H vs Q E hr h => ?_)
  · obtain ⟨S, p, v, d, rfl, _⟩ := h
    rfl
  refine ⟨_, (pss_cons (ps_par (i := 2) (j := 3) (by rfl) sc__law_otherwise.nd rfl rfl (by decide) rfl rfl (pa_cons (pe_cal C__law_digit hr (pa_cons (pv 0) (pa_cons pe_int pa_nil))) (pa_cons (pe_cal C__law_digit hr (pa_cons (pv 0) (pa_cons pe_int pa_nil))) pa_nil)) (by rfl))
      (pss_cons (ps_if (pt_cmpR (op_eqB (K := K) hr.units) (pv 2) pe_int (nomark _)) (pss_one (ps_ret (pe_op (op_addB (K := K)) (pe_op (op_addB (K := K)) (pe_slice (sl_B (K := K)) (pv 1) po_none (po_some (pv 3))) (pe_tup (pa_cons (pe_cal C__law_odd_thing hr (pa_cons (pv 0) (pa_cons (pe_ix (ix_seqB (K := K)) (pv 1) (pv 3) (fun _ _ => rfl)) pa_nil))) pa_nil))) (pe_slice (sl_B (K := K)) (pv 1) (po_some (pv 3)) po_none)))) pss_nil)
      (pss_cons (ps_if (pt_cmpR (op_eqB (K := K) hr.units) (pv 2) pe_int (nomark _)) (pss_one (ps_ret (pe_op (op_addB (K := K)) (pe_slice (sl_B (K := K)) (pv 1) po_none (po_some (pv 3))) (pe_slice (sl_B (K := K)) (pv 1) (po_some (pe_op (op_addB (K := K)) (pv 3) pe_int)) po_none)))) pss_nil)
      (pss_cons (ps_if (pt_cmpR (op_eqB (K := K) hr.units) (pv 2) pe_int (nomark _)) (pss_one (ps_ret (pe_ix (ix_seqB (K := K)) (pe_lst (pa_cons (pe_bT (call_listB (K := K)) T.b_list bb_list (pa_cons (pv 1) pa_nil)) (pa_cons (pe_tup (pa_cons (pv 1) pa_nil)) (pa_cons (pe_ix (ix_seqB (K := K)) (pv 1) pe_int (fun _ _ => rfl)) (pa_cons (pe_op (op_addB (K := K)) (pv 1) (pv 1)) pa_nil))))) (pe_cal C__law_digit hr (pa_cons (pv 0) (pa_cons pe_int pa_nil))) (fun _ _ => rfl)))) pss_nil)
      (pss_one (ps_ret (pe_op (op_addB (K := K)) (pe_op (op_addB (K := K)) (pe_slice (sl_B (K := K)) (pv 1) po_none (po_some (pv 3))) (pe_tup (pa_cons (pe_cal C__law_odd_thing hr (pa_cons (pv 0) (pa_cons (pe_ix (ix_seqB (K := K)) (pv 1) (pv 3) (fun _ _ => rfl)) pa_nil))) pa_nil))) (pe_slice (sl_B (K := K)) (pv 1) (po_some (pe_op (op_addB (K := K)) (pv 3) pe_int)) po_none)))))))), ?_⟩
  try dsimp only [cxOf, Cx.nox, Cx.wish]
  have sK : Sm K := T.sm
  obtain ⟨S, p, v, d, rfl, st, hd, ev, q⟩ := h
  obtain ⟨xs, rfl, l3, px⟩ := ev.at
  have zx : ∀ x ∈ xs, szD x = true := fun x m => (px x m).sz
  have zc : ∀ (a b : Option Int) (x : PyData), x ∈ cutG xs a b → szD x = true := fun a b x m => zx x (cut_mem m)
  have zl : ∀ a b : Option Int, (cutG xs a b).length ≤ 3 := fun a b => l3 ▸ cut_len
  have lv := st.live
  walk_at "fg"
  walk_at "dig"
  walk_at "fg"
  walk_at "dig"
  walk_at "fg"
  refine ite2 (fun c => ?_) (fun c => ?_)
  · walk_at "fg"
    refine st_ixG (ds := xs) (by with_reducible assumption) (by walk_at "dn") rfl (by omega) (by assumption) (by omega) ?_
    intro w x m hx
    refine ⟨S, p, _, _, rfl, by with_reducible assumption, hx, px x m, ?_⟩
    intro w2 y H2 sy hy rk2 pt2
    have st2 := Stt.draw (by with_reducible assumption) rk2 pt2
    have lv2 := st2.live
    walk_at "fg"
    refine st_catTs (by with_reducible assumption) (by walk_at "dn") (by walk_at "dn") (Nat.le_trans (Nat.add_le_add_right (zl _ _) 1) (by decide)) ?_
    walk_at "new"
    walk_at "fg"
    refine st_catTs (by with_reducible assumption) (by walk_at "dn") (by walk_at "dn") (Nat.le_trans (Nat.add_le_add (Nat.le_trans (Nat.le_of_eq List.length_append) (Nat.add_le_add_right (zl _ _) 1)) (zl _ _)) (by decide)) ?_
    walk_at "new"
    refine q _ _ _ (szT fun z m => ?_) (by walk_at "dn") (by walk_at "rk") (by walk_at "pot")
    rcases List.mem_append.mp m with m | m
    · rcases List.mem_append.mp m with m | m
      · exact zc _ _ _ m
      · rw [List.mem_singleton.mp m]
        exact sy
    · exact zc _ _ _ m
  walk_at "fg"
  refine ite2 (fun c => ?_) (fun c => ?_)
  · walk_at "fg"
    refine st_catTs (by with_reducible assumption) (by walk_at "dn") (by walk_at "dn") (Nat.le_trans (Nat.add_le_add (zl _ _) (zl _ _)) (by decide)) ?_
    walk_at "new"
    refine q _ _ _ (szT fun z m => ?_) (by walk_at "dn") (by walk_at "rk") (by walk_at "pot")
    rcases List.mem_append.mp m with m | m <;> exact zc _ _ _ m
  walk_at "fg"
  refine ite2 (fun c => ?_) (fun c => ?_)
  · walk_at "fg"
    refine st_listT (by with_reducible assumption) (by walk_at "dn") ?_
    walk_at "newL"
    walk_at "fg"
    refine st_ixT0 (n := 0) (S := S) (ds := xs) (by walk_at "dn") (List.getElem?_eq_getElem (by omega)) fun w hw => ?_
    walk_at "fg"
    walk_at "dig"
    walk_at "ixq"
    intro w x m hx
    refine q _ _ _ ?_ hx (by walk_at "rk") (by walk_at "pot")
    simp only [List.mem_cons, List.not_mem_nil, or_false] at m
    rcases m with rfl | rfl | rfl | rfl
    · exact szL zx
    · exact szT fun z m => by rw [List.mem_singleton.mp m]; exact szT zx
    · exact zx _ (List.getElem_mem _)
    · exact szT fun z m => (List.mem_append.mp m).elim (zx z) (zx z)
  walk_at "fg"
  refine st_ixG (ds := xs) (by with_reducible assumption) (by walk_at "dn") rfl (by omega) (by assumption) (by omega) ?_
  intro w x m hx
  refine ⟨S, p, _, _, rfl, by with_reducible assumption, hx, px x m, ?_⟩
  intro w2 y H2 sy hy rk2 pt2
  have st2 := Stt.draw (by with_reducible assumption) rk2 pt2
  have lv2 := st2.live
  walk_at "fg"
  refine st_catTs (by with_reducible assumption) (by walk_at "dn") (by walk_at "dn") (Nat.le_trans (Nat.add_le_add_right (zl _ _) 1) (by decide)) ?_
  walk_at "new"
  walk_at "fg"
  refine st_catTs (by with_reducible assumption) (by walk_at "dn") (by walk_at "dn") (Nat.le_trans (Nat.add_le_add (Nat.le_trans (Nat.le_of_eq List.length_append) (Nat.add_le_add_right (zl _ _) 1)) (zl _ _)) (by decide)) ?_
  walk_at "new"
  refine q _ _ _ (szT fun z m => ?_) (by walk_at "dn") (by walk_at "rk") (by walk_at "pot")
  rcases List.mem_append.mp m with m | m
  · rcases List.mem_append.mp m with m | m
    · exact zc _ _ _ m
    · rw [List.mem_singleton.mp m]
      exact sy
  · exact zc _ _ _ m
theorem cal__law_right {P : Program} {w : World} {K : PySem.W.Frag} {mg : Str → Option Value} {base : Heap} (T : Tx K mg) (F : FnP K "_law_right" s__law_right) (C_is_event : Cal P w K mg base "is_event" 2 ["thing"] (spFn K isEvent)) (C__law_is_event : Cal P w K mg base "_law_is_event" 2 ["_law_thing"] (spFn K isEvent)) (C_is_name : Cal P w K mg base "is_name" 1 ["thing"] (spFn K isName)) (C__law_is_name : Cal P w K mg base "_law_is_name" 1 ["_law_thing"] (spFn K isName)) : CalG P w K mg base "_law_right" 3 ["_law_thing"] (spFn K (fun _ => true)) := by
  refine CalG.of F T.g__law_right sc__law_right (fun vs H Q E h => ?_) (fun _ _ _ _ _ _ us hl => match us, hl with | [_], _ => rfl) (fun cdv A out s H vs Q E hr gd h => ?_)
  · obtain ⟨S, v, d, rfl, _⟩ := h
    rfl
  refine ⟨_, (pss_cons (ps_if (pt_cmpR (op_neB (K := K) hr.units) (pe_bB (call_reprB T.sm gd hr.units) T.b_repr bb_repr (pa_cons (pe_cal C_is_name hr (pa_cons (pv 0) pa_nil)) pa_nil)) (pe_bB (call_reprB T.sm gd hr.units) T.b_repr bb_repr (pa_cons (pe_cal C__law_is_name hr (pa_cons (pv 0) pa_nil)) pa_nil)) (nomark _)) (pss_one (ps_ret pe_bl)) pss_nil)
      (pss_one (ps_ret (pe_cmpR (op_eqB (K := K) hr.units) (pe_bB (call_reprB T.sm gd hr.units) T.b_repr bb_repr (pa_cons (pe_cal C_is_event hr (pa_cons (pv 0) pa_nil)) pa_nil)) (pe_bB (call_reprB T.sm gd hr.units) T.b_repr bb_repr (pa_cons (pe_cal C__law_is_event hr (pa_cons (pv 0) pa_nil)) pa_nil)) (nomark _))))), ?_⟩
  try dsimp only [cxOf, Cx.nox, Cx.wish]
  have sK : Sm K := T.sm
  obtain ⟨S, v, d, rfl, hd, hz, q⟩ := h
  walk_at "fg"
  refine ⟨S, v, d, rfl, hd, hz, fun H1 s1 => ?_⟩
  walk_at "fg"
  refine ⟨S, v, d, rfl, dn_same s1 hd, hz, fun H2 s2 => ?_⟩
  walk_at "fg"
  refine ⟨S, v, d, rfl, dn_same s2 (dn_same s1 hd), hz, fun H3 s3 => ?_⟩
  walk_at "fg"
  refine ⟨S, v, d, rfl, dn_same s3 (dn_same s2 (dn_same s1 hd)), hz, fun H4 s4 => ?_⟩
  walk_at "fg"
  exact q _ (s1.trans (s2.trans (s3.trans s4)))
theorem cal_law {P : Program} {w : World} {K : PySem.W.Frag} {mg : Str → Option Value} {base : Heap} (T : Tx K mg) (F : FnP K "law" s_law) (C__law_right : CalG P w K mg base "_law_right" 3 ["_law_thing"] (spFn K (fun _ => true))) (C__law_odd_thing : Cal P w K mg base "_law_odd_thing" 3 ["_law_pot", "_law_part"] (spGenA K ptOk (fun _ => short))) (C__law_otherwise : Cal P w K mg base "_law_otherwise" 4 ["_law_pot", "_law_event"] (spGenA K anEvent (fun _ => short))) (C__law_text : Cal P w K mg base "_law_text" 3 ["_law_pot"] (spGen K (isText 30))) (C__law_some_event : Cal P w K mg base "_law_some_event" 4 ["_law_pot"] (spGen K anEvent)) (C__law_start : Cal P w K mg base "_law_start" 1 ["_law_cell_here", "_law_k"] (spStart)) (C__law_cell : Cal P w K mg base "_law_cell" 1 ["_law_script", "_law_k"] (spCell K)) : CalG P w K mg base "law" 5 ["_law_script"] (spLaw 63 K) := by
  refine CalG.of F T.g_law sc_law (fun vs H Q E h => ?_) (fun _ _ _ _ _ _ us hl => match us, hl with | [_], _ => rfl) (fun cdv A out s H vs Q E hr gd h => ?_)
  · obtain ⟨a, ns, rfl, _⟩ := h
    rfl
  refine ⟨_, (pss_cons (ps_if (pt_cmpR (op_neB (K := K) hr.units) (pe_bB (call_reprB T.sm gd hr.units) T.b_repr bb_repr (pa_cons (pe_lst (pa_cons (pe_gR T.g_BOXES) (pa_cons (pe_gI T.c_MOST_ROWS) pa_nil))) pa_nil)) (pe_bB (call_reprB T.sm gd hr.units) T.b_repr bb_repr (pa_cons (pe_lst (pa_cons (pe_tup (pa_cons pe_str (pa_cons pe_str (pa_cons pe_str (pa_cons pe_str pa_nil))))) (pa_cons pe_int pa_nil))) pa_nil)) (nomark _)) (pss_one (ps_ret pe_bl)) pss_nil)
      (pss_cons (ps_for PassesOwn.never rfl (pi_range1 (by rfl) T.b_range (pa_cons (pe_bB (call_maxU rfl) T.b_max bb_max (pa_cons pe_int (pa_cons (pe_bB (call_minU rfl) T.b_min bb_min (pa_cons pe_int (pa_cons (pe_bB (call_lenB (K := K)) T.b_len bb_len (pa_cons (pv 0) pa_nil)) pa_nil))) pa_nil))) pa_nil)) (pg_name (i := 1) sc_law.nd rfl (Or.inl rfl)) (pss_cons (ps_asg (pe_cal C__law_start hr (pa_cons (pe_cal C__law_cell hr (pa_cons (pv 0) (pa_cons (pv 1) pa_nil))) (pa_cons (pv 1) pa_nil))) (pg_name (i := 2) sc_law.nd rfl (Or.inl rfl)))
      (pss_cons (ps_asg (pe_cal C__law_some_event hr (pa_cons (pv 2) pa_nil)) (pg_name (i := 3) sc_law.nd rfl (Or.inl rfl)))
      (pss_cons (ps_asg (pe_lst (pa_cons (pe_cal C__law_text hr (pa_cons (pv 2) pa_nil)) (pa_cons (pe_cal C__law_text hr (pa_cons (pv 2) pa_nil)) (pa_cons (pv 3) (pa_cons (pe_cal C__law_otherwise hr (pa_cons (pv 2) (pa_cons (pv 3) pa_nil))) (pa_cons (pe_cal C__law_odd_thing hr (pa_cons (pv 2) (pa_cons (pe_ix (ix_seqB (K := K)) (pv 3) pe_int (fun _ _ => rfl)) pa_nil))) pa_nil)))))) (pg_name (i := 4) sc_law.nd rfl (Or.inl rfl)))
      (pss_one (ps_if (pt_not (pt_val (pe_bB (cr_allB (K := K) rfl) T.b_all bb_all (pa_cons (pe_lc (own := [("_law_thing", 5)]) (g := gName 5) (tt := tYes) (by rfl) sc_law.nd (pi_list (pv 4)) (blkOk_by (own := [("_law_thing", 5)]) (N := ["_law_script", "_law_k", "_law_pot", "_law_event", "_law_some", "_law_thing"]) (sc := defScope s_law) (by decide +kernel)) (fun _ _ _ _ _ => (pg_name (i := 5) sc_law.nd rfl (Or.inl rfl))) (fun _ _ _ _ _ => pts_nil) (fun _ _ _ _ _ => (pe_calG C__law_right hr gd (pa_cons (pv 5) pa_nil)))) pa_nil)))) (pss_one (ps_ret pe_bl)) pss_nil))))))
      (pss_one (ps_ret (pe_bB (cr_allB (K := K) rfl) T.b_all bb_all (pa_cons (pe_lc (own := [("_law_thing", 5)]) (g := gName 5) (tt := tYes) (by rfl) sc_law.nd (pi_list (pe_lst (pa_cons pe_str (pa_cons (pe_tup pa_nil) (pa_cons (pe_lst pa_nil) (pa_cons pe_dnewK (pa_cons pe_int (pa_cons pe_bl (pa_cons pe_non (pa_cons pe_str (pa_cons (pe_tup (pa_cons pe_str (pa_cons pe_str (pa_cons pe_int pa_nil)))) pa_nil))))))))))) (blkOk_by (own := [("_law_thing", 5)]) (N := ["_law_script", "_law_k", "_law_pot", "_law_event", "_law_some", "_law_thing"]) (sc := defScope s_law) (by decide +kernel)) (fun _ _ _ _ _ => (pg_name (i := 5) sc_law.nd rfl (Or.inl rfl))) (fun _ _ _ _ _ => pts_nil) (fun _ _ _ _ _ => (pe_calG C__law_right hr gd (pa_cons (pv 5) pa_nil)))) pa_nil)))))), ?_⟩
  try dsimp only [cxOf, Cx.nox, Cx.wish]
  have sK : Sm K := T.sm
  obtain ⟨a, ns, rfl, hl, hs, q⟩ := h
  have hB : ∀ H, Dn K H (.ref (He.ga K "BOXES")) (.tuple [.str "a", .str "b", .str "c", .str "d"]) := fun H => .tup (T.t_BOXES H) (.cons (.str _) (.cons (.str _) (.cons (.str _) (.cons (.str _) .nil))))
  have l0 : Live [] H := Live.nil
  have hB0 := hB (hid [] H)
  walk_at "fg"
  refine st_repr (by walk_at "dn") (by decide +kernel) (by decide +kernel) (by decide +kernel) ?_
  walk_at "fg"
  refine st_repr (by walk_at "dn") (by decide +kernel) (by decide +kernel) (by decide +kernel) ?_
  walk_at "fg"
  refine st_lenR (Same.seq (by walk_at "sm") hs) ?_
  walk_at "fg"
  have ln : (ns.map V.int).length = ns.length := List.length_map ..
  rw [ln]
  generalize hj : (if (if (ns.length : Int) < 6 then (ns.length : Int) else 6) > 1 then (if (ns.length : Int) < 6 then (ns.length : Int) else 6) else 1) = j
  have j0 : 0 ≤ j ∧ j ≤ 10 := by
    rw [← hj]
    repeat' split
    all_goals omega
  refine st_rngI j0.1 (by omega) ?_
  refine for_it walk_range (fun i σ H => ∃ x1 x2 x3 x4 x5, σ = [some (.ref a), x1, x2, x3, x4, x5] ∧ SqL K H a (ns.map V.int)) ⟨_, _, _, _, _, rfl, Same.seq (by walk_at "sm") hs⟩ (fun _ _ _ _ _ => trivial) (fun i x σ H1 H2 hi pv y => ?_) fun σ H1 pv => ?_
  · obtain ⟨x1, x2, x3, x4, x5, rfl, hs1⟩ := pv
    obtain ⟨rfl, rfl⟩ := y
    walk_at "fg"
    refine ⟨a, ns, _, rfl, hs1, by omega, fun c => ?_⟩
    walk_at "fg"
    refine ⟨c, _, rfl, by omega, by omega, fun p H3 hp s3 pt => ?_⟩
    have st := Stt.one pt
    have lv := st.live
    have hs3 := sq_hid hs1 hp s3
    walk_at "fg"
    refine ⟨[p], p, rfl, by with_reducible assumption, ?_⟩
    intro we ev H4 aev hev rk4 pt4
    have st4 := Stt.draw st rk4 pt4
    have lv4 := st4.live
    have aev' := aev
    obtain ⟨ea, eb, ei, rfl, ta, tb, _⟩ := aev
    walk_at "fg"
    refine ⟨[p], p, rfl, by with_reducible assumption, ?_⟩
    intro w5 d5 H5 t5 h5 rk5 pt5
    have st5 := Stt.draw (by with_reducible assumption) rk5 pt5
    have lv5 := st5.live
    walk_at "fg"
    refine ⟨[p], p, rfl, by with_reducible assumption, ?_⟩
    intro w6 d6 H6 t6 h6 rk6 pt6
    have st6 := Stt.draw (by with_reducible assumption) rk6 pt6
    have lv6 := st6.live
    walk_at "fg"
    refine ⟨[p], p, _, _, rfl, by with_reducible assumption, by walk_at "dn", aev', ?_⟩
    intro w7 d7 H7 z7 h7 rk7 pt7
    have st7 := Stt.draw (by with_reducible assumption) rk7 pt7
    have lv7 := st7.live
    walk_at "fg"
    refine st_ixT0 (n := 0) (S := [p]) (ds := [ea, eb, .int ei]) (by walk_at "dn") rfl fun w hw => ?_
    walk_at "fg"
    refine ⟨[p], p, _, _, rfl, by with_reducible assumption, hw, .inl ta, ?_⟩
    intro w8 d8 H8 z8 h8 rk8 pt8
    have st8 := Stt.draw (by with_reducible assumption) rk8 pt8
    have lv8 := st8.live
    walk_at "fg"
    have zz : szAll [d5, d6, .tuple [ea, eb, .int ei], d7, d8] = true := by
      have e1 := szD_text t5 (by decide)
      have e2 := szD_text t6 (by decide)
      have e3 : szD (.tuple [ea, eb, .int ei]) = true := by
        obtain ⟨xs, e, _, px⟩ := aev'.at
        rw [e]
        exact szT fun x m => (px x m).sz
      have e4 : szD d7 = true := z7
      have e5 : szD d8 = true := z8
      simp only [szAll, e1, e2, e3, e4, e5, Bool.and_true]
    walk_at "itl"
    intro al vs e hv hvs
    subst e
    refine lc_fn (walk_list (xs := vs)) (fun _ => .bl true) (fun H' s' => SqL.of (s' _ _ hv)) (by rw [hvs.length]; walk_at "sz") (fun _ => rfl) (fun i y Ha Hb hi sa hy => ?_) fun t Hc ht sc hc => ?_
    · obtain ⟨rfl, ey⟩ := hy
      refine ⟨Same.refl _, fun R k => ?_⟩
      walk_at "fg"
      obtain ⟨dd, ed, hd⟩ := hvs.get ey
      exact ⟨[p], y, dd, rfl, dn_same sa hd, szAll_mem zz (List.mem_of_getElem? ed), fun H' s' => k _ s'⟩
    walk_at "fg"
    refine st_allR hc ?_
    rw [all_true]
    walk_at "fg"
    exact ⟨_, _, _, _, _, rfl, sqL_up (sq_rk hs3 (by walk_at "rk"))⟩
  · obtain ⟨x1, x2, x3, x4, x5, rfl, hs1⟩ := pv
    have l1 : Live [] H1 := Live.nil
    walk_at "fg"
    walk_at "itl"
    intro al vs e hv hvs
    subst e
    refine lc_fn (walk_list (xs := vs)) (fun _ => .bl true) (fun H' s' => SqL.of (s' _ _ hv)) (by rw [hvs.length]; walk_at "sz") (fun _ => rfl) (fun i y Ha Hb hi sa hy => ?_) fun t Hc ht sc hc => ?_
    · obtain ⟨rfl, ey⟩ := hy
      refine ⟨Same.refl _, fun R k => ?_⟩
      walk_at "fg"
      obtain ⟨dd, ed, hd⟩ := hvs.get ey
      exact ⟨[], y, dd, rfl, dn_same sa hd, szAll_mem (by decide +kernel) (List.mem_of_getElem? ed), fun H' s' => k _ s'⟩
    walk_at "fg"
    refine st_allR hc ?_
    rw [all_true]
    walk_at "fg"
    exact q _
/-! ### the head -/
def dfn : List He.DefD := [⟨("is_whole", none), "is_whole", "is_whole", defArgs s_is_whole, defBody s_is_whole, defScope s_is_whole, [], []⟩,
  ⟨("is_name", none), "is_name", "is_name", defArgs s_is_name, defBody s_is_name, defScope s_is_name, [], []⟩,
  ⟨("is_event", none), "is_event", "is_event", defArgs s_is_event, defBody s_is_event, defScope s_is_event, [], []⟩,
  ⟨("_law_cell", none), "_law_cell", "_law_cell", defArgs s__law_cell, defBody s__law_cell, defScope s__law_cell, [], []⟩,
  ⟨("_law_start", none), "_law_start", "_law_start", defArgs s__law_start, defBody s__law_start, defScope s__law_start, [], []⟩,
  ⟨("_law_digit", none), "_law_digit", "_law_digit", defArgs s__law_digit, defBody s__law_digit, defScope s__law_digit, [], []⟩,
  ⟨("_law_pick", none), "_law_pick", "_law_pick", defArgs s__law_pick, defBody s__law_pick, defScope s__law_pick, [], []⟩,
  ⟨("_law_text", none), "_law_text", "_law_text", defArgs s__law_text, defBody s__law_text, defScope s__law_text, [], []⟩,
  ⟨("_law_is_name", none), "_law_is_name", "_law_is_name", defArgs s__law_is_name, defBody s__law_is_name, defScope s__law_is_name, [], []⟩,
  ⟨("_law_is_event", none), "_law_is_event", "_law_is_event", defArgs s__law_is_event, defBody s__law_is_event, defScope s__law_is_event, [], []⟩,
  ⟨("_law_some_event", none), "_law_some_event", "_law_some_event", defArgs s__law_some_event, defBody s__law_some_event, defScope s__law_some_event, [], []⟩,
  ⟨("_law_odd_thing", none), "_law_odd_thing", "_law_odd_thing", defArgs s__law_odd_thing, defBody s__law_odd_thing, defScope s__law_odd_thing, [], []⟩,
  ⟨("_law_otherwise", none), "_law_otherwise", "_law_otherwise", defArgs s__law_otherwise, defBody s__law_otherwise, defScope s__law_otherwise, [], []⟩,
  ⟨("_law_right", none), "_law_right", "_law_right", defArgs s__law_right, defBody s__law_right, defScope s__law_right, [], []⟩,
  ⟨("law", none), "law", "law", defArgs s_law, defBody s_law, defScope s_law, [], []⟩]
def dfa : List He.Fa := [.glo "is_whole",
  .glo "is_name",
  .glo "is_event",
  .glo "_law_cell",
  .glo "_law_start",
  .glo "_law_digit",
  .glo "_law_pick",
  .glo "_law_text",
  .glo "_law_is_name",
  .glo "_law_is_event",
  .glo "_law_some_event",
  .glo "_law_odd_thing",
  .glo "_law_otherwise",
  .glo "_law_right",
  .glo "law",
  .free "abs",
  .free "all",
  .free "bool",
  .free "divmod",
  .free "int",
  .free "isinstance",
  .free "len",
  .free "list",
  .free "max",
  .free "min",
  .free "range",
  .free "repr",
  .free "str",
  .free "tuple",
  .glo "BOXES",
  .str "GIVE" "give",
  .str "GUESS" "guess",
  .str "LETTERS" "abcdefghijklmnopqrstuvwxyz",
  .int "MOST_LETTERS" 8,
  .int "MOST_ROWS" 20,
  .str "TAKE" "take"]
def dts (K : PySem.W.Frag) : Bool := (He.tupB K "BOXES" [.str "a", .str "b", .str "c", .str "d"]) && true
def loose0 : List Str := ["LETTERS", "MOST_LETTERS", "BOXES", "MOST_ROWS", "TAKE", "GUESS", "GIVE", "is_whole", "is_name", "is_event", "_law_cell", "_law_start", "_law_digit", "_law_pick", "_law_text", "_law_is_name", "_law_is_event", "_law_some_event", "_law_odd_thing", "_law_otherwise", "_law_right"]
abbrev Lo : List Str := loose0
abbrev Rr : PySem.W.OpenRow := PySem.W.OpenLaw.row PySem.Challenge.rw_foreguess_k11_names_and_events
abbrev hks : PySem.W.Hook := hookS dts 4 dfa dfn
def obs0 (s : PySem.W.SharedT) : AlS := obsSG dts 4 dfa dfn (HandSHeadRun.getT s)
theorem obs0_eq (s : PySem.W.SharedT) : obs0 s = hks.obs s.abs := obsSG_eq (HandSHeadRun.getT_eq s)
theorem runs (w : World) : HandSHeadRun.RunEq Rr (PySem.W.view Rr.prog [23]) hks obs0 2000 Lo w := by
  intro os
  kernel_rfl
theorem facts {P : Program} {w : World} {K : PySem.W.Frag} {h : Heap} {mg : Str → Option Value} {f : Addr} (X : K.In h) (G : h.Ns mainGlobals mg) (hfa : mg ("law" : Str) = some (.ref f)) (sm : (smB K && dts K) = true) (c : He.SaysD dfa dfn K) :
    ∃ fd : FuncData, (∀ (s : Shared) (v : Value), BindsTo s fd ⟨[v], []⟩ [("_law_script", v)]) ∧ ∀ base : Heap, K.In base → base.Ns mainGlobals mg → FnG P w K mg base CX0 5 f fd ["_law_script"] (spLaw 63 K) := by
  obtain ⟨sm, tb⟩ := He.ba sm
  obtain ⟨tb_BOXES, tb⟩ := He.ba tb
  have T : Tx K mg := {
    sm := smB_ok sm
    b_abs := He.free_ok X G (c.fact 15 rfl)
    b_all := He.free_ok X G (c.fact 16 rfl)
    b_bool := He.free_ok X G (c.fact 17 rfl)
    b_divmod := He.free_ok X G (c.fact 18 rfl)
    b_int := He.free_ok X G (c.fact 19 rfl)
    b_isinstance := He.free_ok X G (c.fact 20 rfl)
    b_len := He.free_ok X G (c.fact 21 rfl)
    b_list := He.free_ok X G (c.fact 22 rfl)
    b_max := He.free_ok X G (c.fact 23 rfl)
    b_min := He.free_ok X G (c.fact 24 rfl)
    b_range := He.free_ok X G (c.fact 25 rfl)
    b_repr := He.free_ok X G (c.fact 26 rfl)
    b_str := He.free_ok X G (c.fact 27 rfl)
    b_tuple := He.free_ok X G (c.fact 28 rfl)
    g_BOXES := He.glo_ok X G (c.fact 29 rfl)
    t_BOXES := fun H => He.tupB_ok tb_BOXES H
    c_GIVE := He.str_ok X G (c.fact 30 rfl)
    c_GUESS := He.str_ok X G (c.fact 31 rfl)
    c_LETTERS := He.str_ok X G (c.fact 32 rfl)
    c_MOST_LETTERS := He.int_ok X G (c.fact 33 rfl)
    c_MOST_ROWS := He.int_ok X G (c.fact 34 rfl)
    c_TAKE := He.str_ok X G (c.fact 35 rfl)
    g_is_whole := He.glo_ok X G (c.fact 0 rfl)
    g_is_name := He.glo_ok X G (c.fact 1 rfl)
    g_is_event := He.glo_ok X G (c.fact 2 rfl)
    g__law_cell := He.glo_ok X G (c.fact 3 rfl)
    g__law_start := He.glo_ok X G (c.fact 4 rfl)
    g__law_digit := He.glo_ok X G (c.fact 5 rfl)
    g__law_pick := He.glo_ok X G (c.fact 6 rfl)
    g__law_text := He.glo_ok X G (c.fact 7 rfl)
    g__law_is_name := He.glo_ok X G (c.fact 8 rfl)
    g__law_is_event := He.glo_ok X G (c.fact 9 rfl)
    g__law_some_event := He.glo_ok X G (c.fact 10 rfl)
    g__law_odd_thing := He.glo_ok X G (c.fact 11 rfl)
    g__law_otherwise := He.glo_ok X G (c.fact 12 rfl)
    g__law_right := He.glo_ok X G (c.fact 13 rfl)
    g_law := He.glo_ok X G (c.fact 14 rfl)
  }
  have F_is_whole : FnP K "is_whole" s_is_whole := c.def_ 0 rfl
  have F_is_name : FnP K "is_name" s_is_name := c.def_ 1 rfl
  have F_is_event : FnP K "is_event" s_is_event := c.def_ 2 rfl
  have F__law_cell : FnP K "_law_cell" s__law_cell := c.def_ 3 rfl
  have F__law_start : FnP K "_law_start" s__law_start := c.def_ 4 rfl
  have F__law_digit : FnP K "_law_digit" s__law_digit := c.def_ 5 rfl
  have F__law_pick : FnP K "_law_pick" s__law_pick := c.def_ 6 rfl
  have F__law_text : FnP K "_law_text" s__law_text := c.def_ 7 rfl
  have F__law_is_name : FnP K "_law_is_name" s__law_is_name := c.def_ 8 rfl
  have F__law_is_event : FnP K "_law_is_event" s__law_is_event := c.def_ 9 rfl
  have F__law_some_event : FnP K "_law_some_event" s__law_some_event := c.def_ 10 rfl
  have F__law_odd_thing : FnP K "_law_odd_thing" s__law_odd_thing := c.def_ 11 rfl
  have F__law_otherwise : FnP K "_law_otherwise" s__law_otherwise := c.def_ 12 rfl
  have F__law_right : FnP K "_law_right" s__law_right := c.def_ 13 rfl
  have F_law : FnP K "law" s_law := c.def_ 14 rfl
  have Z : ∀ base : Heap, CalG P w K mg base "law" 5 ["_law_script"] (spLaw 63 K) := fun base => by
    have C_is_whole : Cal P w K mg base "is_whole" 1 ["thing"] (spFn K isWhole) := cal_is_whole T F_is_whole 
    have C_is_name : Cal P w K mg base "is_name" 1 ["thing"] (spFn K isName) := cal_is_name T F_is_name 
    have C_is_event : Cal P w K mg base "is_event" 2 ["thing"] (spFn K isEvent) := cal_is_event T F_is_event C_is_whole C_is_name
    have C__law_cell : Cal P w K mg base "_law_cell" 1 ["_law_script", "_law_k"] (spCell K) := cal__law_cell T F__law_cell 
    have C__law_start : Cal P w K mg base "_law_start" 1 ["_law_cell_here", "_law_k"] (spStart) := cal__law_start T F__law_start 
    have C__law_digit : Cal P w K mg base "_law_digit" 1 ["_law_pot", "_law_size"] (spDigit) := cal__law_digit T F__law_digit 
    have C__law_pick : Cal P w K mg base "_law_pick" 2 ["_law_pot", "_law_some"] (spPick K) := cal__law_pick T F__law_pick C__law_digit
    have C__law_text : Cal P w K mg base "_law_text" 3 ["_law_pot"] (spGen K (isText 30)) := cal__law_text T F__law_text C__law_digit C__law_pick
    have C__law_is_name : Cal P w K mg base "_law_is_name" 1 ["_law_thing"] (spFn K isName) := cal__law_is_name T F__law_is_name 
    have C__law_is_event : Cal P w K mg base "_law_is_event" 2 ["_law_thing"] (spFn K isEvent) := cal__law_is_event T F__law_is_event C__law_is_name
    have C__law_some_event : Cal P w K mg base "_law_some_event" 4 ["_law_pot"] (spGen K anEvent) := cal__law_some_event T F__law_some_event C__law_text C__law_digit
    have C__law_odd_thing : Cal P w K mg base "_law_odd_thing" 3 ["_law_pot", "_law_part"] (spGenA K ptOk (fun _ => short)) := cal__law_odd_thing T F__law_odd_thing C__law_pick
    have C__law_otherwise : Cal P w K mg base "_law_otherwise" 4 ["_law_pot", "_law_event"] (spGenA K anEvent (fun _ => short)) := cal__law_otherwise T F__law_otherwise C__law_odd_thing C__law_digit
    have C__law_right : CalG P w K mg base "_law_right" 3 ["_law_thing"] (spFn K (fun _ => true)) := cal__law_right T F__law_right C_is_event C__law_is_event C_is_name C__law_is_name
    exact cal_law T F_law C__law_right C__law_odd_thing C__law_otherwise C__law_text C__law_some_event C__law_start C__law_cell
  obtain ⟨fd, F⟩ := F_law
  have e := hfa.symm.trans T.g_law
  cases e
  have b := FunD.bindsA (ps := ["_law_script"]) F fun _ _ _ _ _ _ us hl => match us, hl with | [_], _ => rfl
  refine ⟨fd, fun s v => b s [v] rfl, fun base _ _ => ?_⟩
  obtain ⟨⟨fd2, F2, _, l2⟩, _, _⟩ := Z base
  cases HasFn.one (hasFn_of F) l2
  exact F2
end Lw
open PySem PySem.W PySem.Calls PyProof.Rows
theorem PySem.Challenge.cw_foreguess_k11_names_and_events_holds : PySem.Challenge.rw_foreguess_k11_names_and_events.Holds := by
  w_on; o_law
  refine HandSHeadRun.head_any (r := Lw.Rr) (q := view Lw.Rr.prog [23]) (H := Lw.hks) (ob := Lw.obs0) (M := 2000) (loose := Lw.Lo) (d := HandSHeadRun.topDef Lw.Rr.prog 23) (kwd := []) Lw.obs0_eq
    (by kernel_rfl) (fun s => by kernel_rfl) Lw.runs (by kernel_rfl) (by kernel_rfl) (by kernel_rfl) (by rfl) (by first | assumption | decide +kernel) (by decide +kernel) ⟨rfl, rfl, rfl, rfl, rfl, by decide +kernel⟩ ?hw ?hc
  case hw => w_witness2
  case hc =>
    refine Fg.walk_ofG (l := PySem.Challenge.rw_foreguess_k11_names_and_events) (n := 63) (k := 5) (x := "_law_script") (CX := L2.CX0) rfl (by decide) (by kernel_rfl) ⟨rfl, by decide, by decide⟩ ?F (fun _ _ _ _ z => z)
    intro w mg fa h Y G hmg0
    obtain ⟨K, KX, sm, c⟩ := Y
    have hmg : mg ("law" : PySem.Str) = some (.ref fa) := by
      have e : (HandSHeadRun.topDef Lw.Rr.prog 23).name = ("law" : PySem.Str) := by kernel_rfl
      rw [← e]
      exact hmg0
    obtain ⟨fd, hb, hF⟩ := Lw.facts (P := (PySem.Challenge.rw_foreguess_k11_names_and_events).prog) (w := w) KX G hmg sm c
    exact ⟨K, fd, Fg.spLaw 63 K, KX, hb, fun H a ns hl hS => ⟨a, ns, rfl, hl, hS, fun _ => rfl⟩, hF⟩
