import PyProof.Rows.All
import Wide.All
import OpenK.AllK
import Wide.FinOn
import KE.KStateDown
import HandS.ForMost
import HandS.Exc
import HandS.ExcOwn
import HandS.TryOnly
import HandS.WordsExc
import HandS.IsInst
import HandS.Property
import HandS.Defaults
import HandS.MakeKwOnly
import HandS.Zip
import HandS.TupAny
import HandS.Conv
import HandS.Evl
import HandS.Walk
import HandS.Head0
import HandS.TupSets
import HandS.Head1
import HandS.Head2
import HandS.HeadEnd
import HandS.HeadHook1
import HandS.HeadHook2
import PySem.Challenge.RW_keepbefore_k04_whole_disks_synced_at_any
set_option Elab.async false
set_option linter.all false
set_option maxRecDepth 100000
set_option maxHeartbeats 4000000

/-! KB0: the hook of our own, and small rules. -/
namespace KB
open PySem PySem.Spec PyProof.Rows L2
abbrev Fr := PySem.W.Frag
/-! ### the hook: defs found by a path of one's own, facts by any Bool -/
structure DefE where
  at_ : Fr → Addr
  name : Str
  qual : Str
  params : Arguments
  body : List Stmt
  scope : Scope
  dfl : List He.Dv := []
  kwd : List (Str × He.Dv) := []
def fnX (K : Fr) (a : Addr) : He.FnW := match K.lookup a with
  | some ⟨_, _, .func fd, _⟩ => some (fd.name, fd.qualname, fd.params, fd.body, fd.scope, fd.globals, fd.closure, fd.builtins)
  | _ => none
def DefE.val (d : DefE) : He.FnW := some (d.name, d.qual, d.params, .stmts d.body, d.scope, mainGlobals, [], builtinsNs)
def DefE.dvs (K : Fr) (d : DefE) : List V := d.dfl.map (He.Dv.v K)
def DefE.kws (K : Fr) (d : DefE) : List (Str × V) := d.kwd.map fun q => (q.1, q.2.v K)
def DefE.ok (K : Fr) (d : DefE) : Bool := PySem.W.keepIn K (.ref (d.at_ K)) && (match K.lookup (d.at_ K) with
  | some ⟨_, _, .func fd, _⟩ => PySem.W.codeIn K fd.code d.qual && (He.dflB K fd.defaults (d.dvs K) && He.kwdB K fd.kwdefaults (d.kws K))
  | _ => false)
theorem DefE.funD {K : Fr} {d : DefE} (e : fnX K (d.at_ K) = d.val) (c : d.ok K = true) : ∃ fd, FunD K d.name d.qual d.params d.body d.scope (d.dvs K) (d.kws K) (d.at_ K) fd := by
  obtain ⟨kp, c2⟩ := He.ba c
  unfold fnX at e
  cases q : K.lookup (d.at_ K) with
  | none =>
    rw [q] at c2
    cases c2
  | some o =>
    obtain ⟨oc, od, dt, osl⟩ := o
    rw [q] at c2 e
    cases dt with
    | func fd =>
      obtain ⟨n1, n2, n3, n4, n5, n6, n7, n8, n9, n10, n11, n12, n13, n14, n15⟩ := fd
      have e2 : (some (n1, n2, n3, n4, n5, n6, n7, n15) : He.FnW) = some (d.name, d.qual, d.params, .stmts d.body, d.scope, mainGlobals, [], builtinsNs) := e
      simp only [Option.some.injEq, Prod.mk.injEq] at e2
      obtain ⟨h1, h2, h3, h4, h5, h6, h7, h8⟩ := e2
      subst h1 h2 h3 h4 h5 h6 h7 h8
      have c3 : (PySem.W.codeIn K n13 d.qual && (He.dflB K n8 (d.dvs K) && He.kwdB K n9 (d.kws K))) = true := c2
      obtain ⟨k1, k2⟩ := He.ba c3
      obtain ⟨k3, k4⟩ := He.ba k2
      exact ⟨_, ⟨oc, od, n8, n9, n10, n11, n12, n13, n14, osl, rfl, q, k1, He.dflB_ok k3, He.kwdB_ok k4⟩, kp⟩
    | _ => cases c2
abbrev Fc := Fr → Bool
abbrev AlX : Type := Bool × List He.FnW
def obsX (fa : List Fc) (fn : List DefE) (K : Fr) : AlX := ((fa.all fun f => f K) && fn.all fun d => d.ok K, fn.map fun d => fnX K (d.at_ K))
def valX (fn : List DefE) : AlX := (true, fn.map DefE.val)
def SaysX (fa : List Fc) (fn : List DefE) (K : Fr) : Prop := obsX fa fn K = valX fn
def obsXG (n : Nat) (fa : List Fc) (fn : List DefE) (g : Addr → Option Obj) : AlX := obsX fa fn (He.frG g (He.asD g n))
def hookX (n : Nat) (fa : List Fc) (fn : List DefE) : PySem.W.Hook where
  α := AlX
  obs := fun s => obsXG n fa fn s.heap.get?
  val := fun _ => valX fn
  says := fun _ h => ∃ K : Fr, K.In h ∧ SaysX fa fn K
  of := fun _ _ e => ⟨_, He.frG_in, e⟩
  keeps := fun _ _ _ ⟨K, hK, c⟩ k => ⟨K, PySem.W.Frag.In.keeps hK k, c⟩
theorem obsXG_eq {n : Nat} {fa : List Fc} {fn : List DefE} {g : Addr → Option Obj} {s : Shared} (h : ∀ a, g a = s.heap.get? a) : obsXG n fa fn g = (hookX n fa fn).obs s := by
  have e : g = s.heap.get? := funext h
  rw [e] <;> rfl
section
variable {fa : List Fc} {fn : List DefE} {K : Fr}
theorem SaysX.fact (c : SaysX fa fn K) (i : Nat) {f : Fc} (h : fa[i]? = some f := by rfl) : f K = true := by
  have c1 := (He.ba (show ((fa.all fun f => f K) && fn.all fun d => d.ok K) = true from congrArg (fun z : AlX => z.1) c)).1
  exact List.all_eq_true.mp c1 f (List.mem_of_getElem? h)
theorem SaysX.def_ (c : SaysX fa fn K) (i : Nat) {d : DefE} (h : fn[i]? = some d := by rfl) : ∃ fd, FunD K d.name d.qual d.params d.body d.scope (d.dvs K) (d.kws K) (d.at_ K) fd := by
  have c2 := (He.ba (show ((fa.all fun f => f K) && fn.all fun d => d.ok K) = true from congrArg (fun z : AlX => z.1) c)).2
  have e : fn.map (fun d => fnX K (d.at_ K)) = fn.map DefE.val := congrArg (fun z : AlX => z.2) c
  have e2 : (fn.map fun d => fnX K (d.at_ K))[i]? = (fn.map DefE.val)[i]? := by rw [e]
  rw [List.getElem?_map, List.getElem?_map, h] at e2
  exact DefE.funD (Option.some.inj e2) (List.all_eq_true.mp c2 d (List.mem_of_getElem? h))
end
/-! ### properties among the facts -/
/-- the property object of class x, name f; its getter -/
def prAt (x f : Str) (K : Fr) : Addr := He.ma K (He.ga K x) f
def getterAt (x f : Str) (K : Fr) : Addr := match PySem.W.recIn K (prAt x f K) "property" with
  | some (.ref g :: _) => g
  | _ => 0
def propB (x f : Str) : Fc := fun K => He.eqO (PySem.W.findIn K (.ref (He.ga K x)) f) (some (some (.ref (prAt x f K)))) && (decide (PySem.W.specialIn K (.ref (prAt x f K)) "__get__" = some (some (.builtin "property.__get__"))) &&
  (decide (PySem.W.takesIn K (.ref (prAt x f K)) = some true) && (match PySem.W.recIn K (prAt x f K) "property" with
    | some (.ref _ :: _) => true
    | _ => false)))
theorem propB_ok {x f : Str} {K : Fr} (c : propB x f K = true) : PropOf K (He.ga K x) f (prAt x f K) (getterAt x f K) := by
  obtain ⟨c1, c⟩ := He.ba c
  obtain ⟨c2, c⟩ := He.ba c
  obtain ⟨c3, c4⟩ := He.ba c
  refine ⟨He.eqO_ok c1, of_decide_eq_true c2, of_decide_eq_true c3, ?_⟩
  unfold getterAt
  cases e : PySem.W.recIn K (prAt x f K) "property" with
  | none =>
    rw [e] at c4
    cases c4
  | some l =>
    rw [e] at c4
    cases l with
    | nil => cases c4
    | cons v r =>
      cases v with
      | ref g => exact ⟨r, rfl⟩
      | _ => cases c4
/-! ### xs[i] op= e -/
section
variable {X : Cx}
theorem get_list : PGet X (rIxL X.K) := by
  intro pins s σ H o i ov iv Q I ro ri h
  obtain ⟨p, xs, k, z, rfl, rfl, hq, he, q⟩ := h
  cases ro
  obtain ⟨t, rfl⟩ := ri
  obtain ⟨its, r, pl, hz⟩ := I.list hq
  obtain ⟨j, h1, h2, h3, h4, h5⟩ := atI_get he
  obtain ⟨w, ew, rw'⟩ := r.get h2
  have hl := r.length
  have hn := line63
  have fin : EP X pins σ Q w s := ⟨z, H, I, rw', q⟩
  by_cases h0 : 0 ≤ k
  · have hj : k.toNat = j := by
      rw [seqIndex_of h0 h5] at h1
      exact Option.some.inj h1
    exact wpAny_getItem_list pl.isList h0 (by omega) (by rw [hj]; simpa using ew) fin
  · have hj : (k + (its.toArray.size : Int)).toNat = j := by
      rw [seqIndex_neg (by omega) h4] at h1
      rw [List.size_toArray, ← hl]
      exact Option.some.inj h1
    exact wpAny_getItem_list_neg pl.isList (by omega) (by rw [List.size_toArray] <;> omega) (by omega) (by rw [hj]; simpa using ew) fin
end
end KB
namespace KB
open PySem PySem.Spec PyProof.Rows L2
/-- a def found and kept -/
def Okf (P : Program) (w : World) (K : Fr) (mg : Str → Option Value) (base : Heap) (CX : CXT) (k : Nat) (f : Addr) (ps : List Str) (sp : Sp) : Prop :=
  ∃ fd, FnOk P w K mg base CX k f fd ps sp ∧ PySem.W.keepIn K (.ref f) = true ∧ Binds K fd ps []
/-- the law's def -/
def OkL (P : Program) (w : World) (K : Fr) (mg : Str → Option Value) (CX : CXT) (k : Nat) (f : Addr) (ps : List Str) (sp : Sp) : Prop :=
  ∃ fd, (∀ base : Heap, FnOk P w K mg base CX k f fd ps sp) ∧ ∀ (s : Shared) (us : List Value), us.length = ps.length → BindsTo s fd ⟨us, []⟩ (ps.zip us)
/-! ### heaps: footprints -/
/-- what stands here may be changed -/
def isM : HO → Bool
  | .lst _ => true
  | .dK _ => true
  | .dT _ => true
  | .ins _ _ _ => true
  | _ => false
def Mu (H : Hp) (a : Addr) : Prop := ∃ o, H a = some o ∧ isM o = true
def Disj (p q : List Addr) : Prop := ∀ a, a ∈ p → a ∈ q → False
theorem Disj.symm {p q : List Addr} (h : Disj p q) : Disj q p := fun a x y => h a y x
/-- from H to H' only what stands at fp changed; the thing's new footprint is fp' -/
structure Mv (fp fp' : List Addr) (H H' : Hp) : Prop where
  keep : ∀ b o, H b = some o → b ∉ fp → H' b = some o
  mu : ∀ b ∈ fp, Mu H b
  new : ∀ b ∈ fp', b ∈ fp ∨ H b = none
theorem Mv.tup {fp fp' : List Addr} {H H' : Hp} (m : Mv fp fp' H H') {t : Addr} {xs : List V} (h : H t = some (.tup xs)) : H' t = some (.tup xs) :=
  m.keep t _ h fun hb => by
    obtain ⟨o, e, q⟩ := m.mu t hb
    rw [h] at e
    cases e
    cases q
theorem Mv.frz {fp fp' : List Addr} {H H' : Hp} (m : Mv fp fp' H H') {t : Addr} {ob : Obj} {u : HO} (h : H t = some (.frz ob u)) : H' t = some (.frz ob u) :=
  m.keep t _ h fun hb => by
    obtain ⟨o, e, q⟩ := m.mu t hb
    rw [h] at e
    cases e
    cases q
theorem Mv.disj {fp fp' q : List Addr} {H H' : Hp} (m : Mv fp fp' H H') (hd : Disj fp q) (hq : ∀ a ∈ q, Mu H a) : Disj fp' q := fun a h1 h2 => by
  rcases m.new a h1 with h | h
  · exact hd a h h2
  · obtain ⟨o, e, _⟩ := hq a h2
    rw [h] at e
    cases e
theorem Mv.at {fp fp' : List Addr} {H H' : Hp} (m : Mv fp fp' H H') {a : Addr} {o : HO} (h : H a = some o) (hn : a ∉ fp) : H' a = some o := m.keep a o h hn
theorem Mv.refl {fp : List Addr} {H : Hp} (hm : ∀ b ∈ fp, Mu H b) : Mv fp fp H H := ⟨fun _ _ e _ => e, hm, fun _ h => .inl h⟩
/-- only new things -/
theorem Mv.ofSame {H H' : Hp} (s : Same H H') : Mv [] [] H H' := ⟨fun b o e _ => s b o e, (fun _ h => nomatch h), (fun _ h => nomatch h)⟩
theorem Mv.same {H H' : Hp} {fp' : List Addr} (m : Mv [] fp' H H') : Same H H' := fun b o e => m.keep b o e (fun h => nomatch h)
theorem Mv.trans {fp fp1 fp2 : List Addr} {H H1 H2 : Hp} (a : Mv fp fp1 H H1) (b : Mv fp1 fp2 H1 H2) : Mv fp fp2 H H2 where
  keep := fun c o e hn => b.keep c o (a.keep c o e hn) fun h => by
    rcases a.new c h with z | z
    · exact hn z
    · rw [e] at z
      cases z
  mu := a.mu
  new := fun c h => by
    rcases b.new c h with z | z
    · exact a.new c z
    · cases e : H c with
      | none => exact .inr rfl
      | some o =>
        by_cases hc : c ∈ fp
        · exact .inl hc
        · rw [a.keep c o e hc] at z
          cases z
/-- a read-only call behind it -/
theorem Mv.thenSame {fp fp1 : List Addr} {H H1 H2 : Hp} (a : Mv fp fp1 H H1) (b : Same H1 H2) : Mv fp fp1 H H2 where
  keep := fun c o e hn => b c o (a.keep c o e hn)
  mu := a.mu
  new := a.new
theorem Same.thenMv {fp fp1 : List Addr} {H H1 H2 : Hp} (a : Same H H1) (b : Mv fp fp1 H1 H2) (hm : ∀ c ∈ fp, Mu H c) : Mv fp fp1 H H2 where
  keep := fun c o e hn => b.keep c o (a c o e) hn
  mu := hm
  new := fun c h => by
    rcases b.new c h with z | z
    · exact .inl z
    · exact .inr (a.free z)
theorem Mu.same {H H' : Hp} {a : Addr} (s : Same H H') (m : Mu H a) : Mu H' a := by
  obtain ⟨o, e, q⟩ := m
  exact ⟨o, s _ _ e, q⟩
/-- nothing is known there -/
def Fresh (H : Hp) (p : Addr) : Prop := H p = none
theorem ne_fresh {H : Hp} {a b : Addr} {o : HO} (h' : Fresh H b) (h : H a = some o) : a ≠ b := ne_of_none h h'
theorem same_upd {H : Hp} {p : Addr} {o : HO} (h : H p = none) : Same H (upd H p o) := fun a u e => by
  rw [upd_ne (ne_of_none e h)]
  exact e
theorem same_upd' {H H1 : Hp} {p : Addr} {o : HO} (s : Same H H1) (h : H1 p = none) : Same H (upd H1 p o) := s.trans (same_upd h)
/-- an object that H does not know may change -/
theorem same_mut {H H1 : Hp} {p : Addr} {o : HO} (s : Same H H1) (h : H p = none) : Same H (upd H1 p o) := fun a u e => by
  rw [upd_ne (ne_of_none e h)]
  exact s a u e
theorem SqT.same {K : Fr} {H H' : Hp} {a : Addr} {xs : List V} (e : Same H H') (h : SqT K H a xs) : SqT K H' a xs := by
  rcases h with (h | ⟨o, h⟩) | h
  · exact .inl (.inl (e _ _ h))
  · exact .inl (.inr ⟨o, e _ _ h⟩)
  · exact .inr h
theorem SqT.mv {K : Fr} {fp fp' : List Addr} {H H' : Hp} {a : Addr} {xs : List V} (e : Mv fp fp' H H') (h : SqT K H a xs) : SqT K H' a xs := by
  rcases h with (h | ⟨o, h⟩) | h
  · exact .inl (.inl (e.tup h))
  · exact .inl (.inr ⟨o, e.frz h⟩)
  · exact .inr h
theorem small {n : Nat} (h : n ≤ 100000) : n < sizeLine := Nat.lt_of_le_of_lt h (by decide)
theorem smallE {n : Nat} (h : n ≤ 100000) : n ≤ sizeLine := Nat.le_trans h (by decide)
/-! ### the source of numbers -/
def RngL (xs : List V) : Prop := ∃ (s c : Int) (bs : List Int), xs = .int s :: .int c :: bs.map V.int
def Rng (H : Hp) (a : Addr) : Prop := ∃ xs, H a = some (.lst xs) ∧ RngL xs
theorem Rng.keep {H H' : Hp} {a : Addr} {fp fp' : List Addr} (r : Rng H a) (m : Mv fp fp' H H') (hn : a ∉ fp) : Rng H' a := by
  obtain ⟨xs, e, q⟩ := r
  exact ⟨xs, m.keep _ _ e hn, q⟩
theorem Rng.same {H H' : Hp} {a : Addr} (r : Rng H a) (m : Same H H') : Rng H' a := by
  obtain ⟨xs, e, q⟩ := r
  exact ⟨xs, m _ _ e, q⟩
theorem Rng.mu {H : Hp} {a : Addr} (r : Rng H a) : Mu H a := by
  obtain ⟨xs, e, _⟩ := r
  exact ⟨_, e, rfl⟩
/-- a draw changes the source alone -/
theorem Rng.mv {H : Hp} {a : Addr} {xs : List V} (r : Rng H a) : Mv [a] [a] H (upd H a (.lst xs)) where
  keep := fun b o e hn => by
    rw [upd_ne (fun z => hn (by rw [z]; exact List.mem_singleton.mpr rfl))]
    exact e
  mu := fun b hb => by
    rw [List.mem_singleton.mp hb]
    exact r.mu
  new := fun b hb => .inl hb
def isIntV : V → Bool
  | .int _ => true
  | _ => false
def inV' (lo hi : Int) : V → Bool
  | .int i => decide (lo ≤ i) && decide (i ≤ hi)
  | _ => false
/-- the built-in types that data has -/
def tyNames : List String := ["int", "bool", "str", "NoneType", "tuple", "list", "dict"]
theorem getm {α β : Type} {f : α → β} {xs : List α} {i : Nat} {y : β} (h : (xs.map f)[i]? = some y) : ∃ x, xs[i]? = some x ∧ y = f x := by
  rw [List.getElem?_map] at h
  cases e : xs[i]? with
  | none =>
    rw [e] at h
    cases h
  | some x =>
    rw [e] at h
    exact ⟨x, rfl, (Option.some.inj h).symm⟩
theorem ifT {c : Bool} {A B : Prop} (hc : c = true) (h : A) : if c = true then A else B := by
  rw [if_pos hc]
  exact h
theorem ifF {c : Bool} {A B : Prop} (hc : c = false) (h : B) : if c = true then A else B := by
  rw [hc, if_neg Bool.false_ne_true]
  exact h
theorem if2 {c : Bool} {A B : Prop} (h1 : c = true → A) (h2 : c = false → B) : if c = true then A else B := by
  cases c with
  | true => exact ifT rfl (h1 rfl)
  | false => exact ifF rfl (h2 rfl)
theorem atI_of {xs : List V} {n : Nat} {v : V} (h : xs[n]? = some v) : atI xs (n : Int) = some v := atI_nat h
theorem ixN_of {n : Nat} {m : Nat} (h : n < m) : ixN m (n : Int) = some n := by
  unfold ixN
  rw [if_pos (by omega), if_pos (by omega)]
  rfl
end KB
/-! ### readings, step by step -/
namespace KB
open PySem PySem.Spec PyProof.Rows L2
section
variable {K : Fr} {σ : L2.St} {H : Hp} {ta tb tc te to ti tv : TE} {t u : TT} {r r' : R2} {Q : VK} {D : Ends} {tu tz : TS} {g : TG} {ar : TA} {C : Addr} {f m : Str} {sp : Sp} {dvs : List V} {E : XK} {R1 : List V → Hp → VK → Prop} {RM : V → List V → Hp → VK → Prop}
theorem st_seq (h : tu { D with nx := tz D } σ H) : tSeq tu tz D σ H := h
theorem st_next (h : D.nx σ H) : tNext D σ H := h
theorem st_ifS (h : t σ H fun b H1 => if b = true then tu D σ H1 else tz D σ H1) : tIfS t tu tz D σ H := h
theorem st_drop (h : te σ H fun _ H1 => D.nx σ H1) : tDrop te D σ H := h
theorem st_ret (h : te σ H D.rt) : tRet te D σ H := h
theorem st_retN (h : D.rt .non H) : tRetN D σ H := h
theorem st_asg (h : te σ H fun x H1 => g x σ H1 D.nx) : tAsg te g D σ H := h
theorem st_par {i j : Nat} (h : ar σ H fun vs H1 => ∃ v w, vs = [v, w] ∧ D.nx ((σ.set i (some v)).set j (some w)) H1) : tPar i j ar D σ H := h
theorem st_fldS (h : tv σ H fun y H1 => ta σ H1 fun x H2 => ∃ a C dx fs, x = .ref a ∧ H2 a = some (.ins C dx fs) ∧ Cls K C ∧ NoAttr K C f ∧ fs.length < 1000 ∧ D.nx σ (upd H2 a (.ins C dx (putF f y fs)))) : sFld K ta tv f D σ H := h
theorem st_augS {tget : V → V → Hp → VK → Prop} {tip : TIp} {tset : TSet} (h : to σ H fun o H1 => ti σ H1 fun i H2 => tget o i H2 fun x H3 => te σ H3 fun y H4 => tip x y H4 fun z H5 => tset o i z H5 fun H6 => D.nx σ H6) : tAugS to ti te tget tip tset D σ H := h
theorem st_for {wi : TI} (h : wi σ H fun J H1 => ∃ W : Nat → Nat → L2.St → Hp → Prop, (∃ m, W 0 m σ H1) ∧ ∀ i m σ H, W i m σ H →
  (J.stop i H ∧ D.nx σ H) ∨ (J.go i H ∧ ∃ N : L2.St → Hp → Prop, (∀ σ' H', N σ' H' → ∃ m', m' < m ∧ W (i + 1) m' σ' H') ∧ ∀ x H', J.yld i H x H' → g x σ H' fun σ2 H2 => tu { D with nx := N, ct := N, bk := D.nx } σ2 H2)) : tFor wi g tu D σ H := h
theorem st_cut (Mid : L2.St → Hp → Prop) (h1 : tu { D with nx := Mid } σ H) (h2 : ∀ σ' H', Mid σ' H' → tz D σ' H') : Evl.tCut tu tz D σ H := ⟨Mid, h1, h2⟩
theorem st_c {v : V} (h : Q v H) : tC v σ H Q := h
theorem st_op (h : ta σ H fun x H1 => tb σ H1 fun y H2 => r x y H2 Q) : tOp r ta tb σ H Q := h
theorem st_un {ru : V → Hp → VK → Prop} (h : ta σ H fun x H1 => ru x H1 Q) : tUn ru ta σ H Q := h
theorem st_chain (h : ta σ H fun x H1 => tb σ H1 fun y H2 => r x y H2 fun z H3 => ∃ k, z = .bl k ∧ (if k = true then tc σ H3 fun w' H4 => r' y w' H4 Q else Q (.bl false) H3)) : tChain r r' ta tb tc σ H Q := h
theorem st_fld (h : ta σ H fun x H1 => ∃ a C dx fs v, x = .ref a ∧ H1 a = some (.ins C dx fs) ∧ Cls K C ∧ NoAttr K C f ∧ fs.lookup f = some v ∧ Q v H1) : tFld K ta f σ H Q := h
theorem st_cons {QA : List V → Hp → Prop} (h : ta σ H fun x H1 => ar σ H1 fun xs H2 => QA (x :: xs) H2) : tCons ta ar σ H QA := h
theorem st_nil {QA : List V → Hp → Prop} (h : QA [] H) : tNil σ H QA := h
theorem st_tup (h : ar σ H fun xs H1 => xs.length ≤ sizeLine ∧ ∀ p, Fresh H1 p → Q (.ref p) (upd H1 p (.tup xs))) : tTup ar σ H Q := h
theorem st_lst (h : ar σ H fun xs H1 => xs.length ≤ sizeLine ∧ ∀ p, Fresh H1 p → Q (.ref p) (upd H1 p (.lst xs))) : tLst ar σ H Q := h
theorem st_call (h : ar σ H fun vs H1 => sp (vs ++ dvs) H1 Q E) : tCall sp dvs E ar σ H Q := h
theorem st_meth (h : ta σ H fun x H1 => ∃ a dx fs, x = .ref a ∧ H1 a = some (.ins C dx fs) ∧ fs.lookup m = none ∧ ar σ H1 fun vs H2 => sp (x :: (vs ++ dvs)) H2 Q E) : tMeth C m sp dvs E ta ar σ H Q := h
theorem st_make (h : ar σ H fun vs H1 => ∀ x dx, Fresh H1 x → Fresh H1 dx → dx ≠ x → sp (.ref x :: (vs ++ dvs)) (upd (upd H1 dx (.own x)) x (.ins C dx [])) (fun v H2 => v = .non ∧ Q (.ref x) H2) E) : tMake C sp dvs E ar σ H Q := h
theorem st_makeK {n k : Nat} {gV : List V → List V → List V} {tk : TA} (h : ar σ H fun vs H1 => tk σ H1 fun zs H2 => vs.length = n ∧ zs.length = k ∧ ∀ x dx, Fresh H2 x → Fresh H2 dx → dx ≠ x → sp (gV (.ref x :: vs) zs) (upd (upd H2 dx (.own x)) x (.ins C dx [])) (fun v H3 => v = .non ∧ Q (.ref x) H3) E) : tMakeK C n k sp gV E ar tk σ H Q := h
theorem st_prop (h : ta σ H fun x H1 => ∃ a dx fs, x = .ref a ∧ H1 a = some (.ins C dx fs) ∧ sp (.ref a :: dvs) H1 Q E) : tProp C sp dvs E ta σ H Q := h
theorem st_cb (h : ar σ H fun vs H1 => R1 vs H1 Q) : tCB R1 ar σ H Q := h
theorem st_bm {T : String} (h : to σ H fun x H1 => tyV K T x H1 ∧ ar σ H1 fun xs H2 => RM x xs H2 Q) : tBM K T RM to ar σ H Q := h
theorem st_bm0 {T : String} (h : to σ H fun x H1 => tyV K T x H1 ∧ RM x [] H1 Q) : tBM0 K T RM to σ H Q := h
theorem st_test {QT : Bool → Hp → Prop} (h : te σ H fun x H1 => ∃ k, x = .bl k ∧ QT k H1) : tTest te σ H QT := h
theorem st_b {QT : Bool → Hp → Prop} (h : te σ H fun x H1 => ∃ k, x = .bl k ∧ QT k H1) : tB te σ H QT := h
theorem st_and {QT : Bool → Hp → Prop} (h : t σ H fun c H1 => if c = true then u σ H1 QT else QT false H1) : tAnd t u σ H QT := h
theorem st_or {QT : Bool → Hp → Prop} (h : t σ H fun c H1 => if c = true then QT true H1 else u σ H1 QT) : tOr t u σ H QT := h
theorem st_not {QT : Bool → Hp → Prop} (h : t σ H fun c H1 => QT (!c) H1) : tNot t σ H QT := h
theorem st_andV (h : ta σ H fun x H1 => ∃ c, x = .bl c ∧ if c = true then tb σ H1 Q else Q (.bl false) H1) : tAndV ta tb σ H Q := h
theorem st_orV (h : ta σ H fun x H1 => ∃ c, x = .bl c ∧ if c = true then Q (.bl true) H1 else tb σ H1 Q) : tOrV ta tb σ H Q := h
theorem st_notV (h : ta σ H fun x H1 => ∃ c, x = .bl c ∧ Q (.bl (!c)) H1) : tNotV ta σ H Q := h
theorem st_if (h : t σ H fun c H1 => if c = true then ta σ H1 Q else tb σ H1 Q) : tIf t ta tb σ H Q := h
theorem st_yes {QT : Bool → Hp → Prop} (h : QT true H) : tYes σ H QT := h
theorem st_gname {i : Nat} {v : V} {QS : L2.St → Hp → Prop} (h : QS (σ.set i (some v)) H) : gName i v σ H QS := h
theorem st_gsub {v : V} {ts : TSet} {QS : L2.St → Hp → Prop} (h : to σ H fun o H1 => ti σ H1 fun i H2 => ts o i v H2 fun H3 => QS σ H3) : gSub to ti ts v σ H QS := h
theorem st_gtup {n : Nat} {v : V} {ts : TGs} {QS : L2.St → Hp → Prop} {a : Addr} {xs : List V} (e : v = .ref a) (hs : SqT K H a xs) (hl : xs.length = n) (h : ts xs σ H QS) : gTup K n ts v σ H QS := ⟨a, xs, e, hs, hl, h⟩
theorem st_gcons {v : V} {vs : List V} {ts : TGs} {QS : L2.St → Hp → Prop} (h : g v σ H fun σ' H' => ts vs σ' H' QS) : gCons g ts (v :: vs) σ H QS := ⟨v, vs, rfl, h⟩
theorem st_gnil {QS : L2.St → Hp → Prop} (h : QS σ H) : gNil [] σ H QS := ⟨rfl, h⟩
theorem st_rI0 {G : Int → Int → V} {i j : Int} (h : Q (G i j) H) : rI0 G (.int i) (.int j) H Q := ⟨i, j, rfl, rfl, h⟩
theorem st_rI {CC : Int → Int → Prop} {G : Int → Int → V} {i j : Int} (c : CC i j) (h : Q (G i j) H) : rI CC G (.int i) (.int j) H Q := ⟨i, j, rfl, rfl, c, h⟩
theorem st_rU {G : Int → V} {i : Int} (h : Q (G i) H) : rU G (.int i) H Q := ⟨i, rfl, h⟩
theorem dec_int {i j : Int} : decide (V.int i = V.int j) = decide (i = j) := by
  by_cases e : i = j
  · subst e
    rw [decide_eq_true rfl, decide_eq_true rfl]
  · rw [decide_eq_false e, decide_eq_false fun z => e (V.int.inj z)]
theorem dec_str {i j : Str} : decide (V.str i = V.str j) = decide (i = j) := by
  by_cases e : i = j
  · subst e
    rw [decide_eq_true rfl, decide_eq_true rfl]
  · rw [decide_eq_false e, decide_eq_false fun z => e (V.str.inj z)]
theorem st_eqI {i j : Int} (h : Q (.bl (decide (i = j))) H) : rEq (.int i) (.int j) H Q := ⟨rfl, by rw [dec_int]; exact h⟩
theorem st_neI {i j : Int} (h : Q (.bl (!decide (i = j))) H) : rNe (.int i) (.int j) H Q := ⟨rfl, by rw [dec_int]; exact h⟩
theorem st_eqS {i j : Str} (h : Q (.bl (decide (i = j))) H) : rEq (.str i) (.str j) H Q := ⟨rfl, by rw [dec_str]; exact h⟩
theorem st_neS {i j : Str} (h : Q (.bl (!decide (i = j))) H) : rNe (.str i) (.str j) H Q := ⟨rfl, by rw [dec_str]; exact h⟩
theorem st_ixL {p : Addr} {xs : List V} {i : Int} {v : V} (hs : H p = some (.lst xs)) (ha : atI xs i = some v) (h : Q v H) : rIxL K (.ref p) (.int i) H Q := ⟨p, xs, i, v, rfl, rfl, SqL.of hs, ha, h⟩
theorem st_ixLs {p : Addr} {xs : List V} {i : Int} {v : V} (hs : SqL K H p xs) (ha : atI xs i = some v) (h : Q v H) : rIxL K (.ref p) (.int i) H Q := ⟨p, xs, i, v, rfl, rfl, hs, ha, h⟩
theorem st_ixT {p : Addr} {xs : List V} {i : Int} {v : V} (hs : SqT K H p xs) (ha : atI xs i = some v) (h : Q v H) : rIxT K (.ref p) (.int i) H Q := ⟨p, xs, i, v, rfl, rfl, hs, ha, h⟩
theorem st_setL {p : Addr} {xs : List V} {k : Int} {j : Nat} {v : V} {QH : Hp → Prop} (hs : H p = some (.lst xs)) (hj : ixN xs.length k = some j) (h : QH (upd H p (.lst (xs.set j v)))) : rSetL (.ref p) (.int k) v H QH := ⟨p, xs, k, j, rfl, rfl, hs, hj, h⟩
theorem st_ipI {F : Int → Int → Int} {i j : Int} (h : Q (.int (F i j)) H) : ipI F (.int i) (.int j) H Q := ⟨i, j, rfl, rfl, h⟩
theorem st_append {l : Addr} {xs : List V} {y : V} (hs : H l = some (.lst xs)) (hz : xs.length < sizeLine) (h : Q .non (upd H l (.lst (xs ++ [y])))) : rAppend (.ref l) [y] H Q := ⟨l, xs, y, rfl, rfl, hs, hz, h⟩
theorem st_popAt {l : Addr} {xs : List V} {i : Int} {k : Nat} {y : V} (hs : H l = some (.lst xs)) (h1 : -(2 ^ 63) ≤ i) (h2 : i < 2 ^ 63) (hk : seqIndex? i xs.length = some k) (hy : xs[k]? = some y) (h : Q y (upd H l (.lst (xs.eraseIdx k)))) : rPopAt (.ref l) [.int i] H Q := ⟨l, xs, i, k, y, rfl, rfl, hs, h1, h2, hk, hy, h⟩
theorem st_cat {l b : Addr} {xs zs : List V} (h1 : H l = some (.lst xs)) (h2 : H b = some (.lst zs)) (hz : xs.length + zs.length ≤ sizeLine) (h : ∀ p, Fresh H p → Q (.ref p) (upd H p (.lst (xs ++ zs)))) : rCat (.ref l) (.ref b) H Q := ⟨l, b, xs, zs, rfl, rfl, h1, h2, hz, h⟩
theorem st_rep {l : Addr} {xs : List V} {k : Int} (h1 : H l = some (.lst xs)) (h2 : -(2 ^ 63) ≤ k) (h3 : k < 2 ^ 63) (hz : xs.length * k.toNat ≤ sizeLine) (h : ∀ p, Fresh H p → Q (.ref p) (upd H p (.lst (List.replicate k.toNat xs).flatten))) : rRep (.ref l) (.int k) H Q := ⟨l, k, xs, rfl, rfl, h1, h2, h3, hz, h⟩
theorem at0 {x : V} {l : List V} : atI (x :: l) 0 = some x := atI_nat (xs := x :: l) (j := 0) rfl
theorem at1 {x y : V} {l : List V} : atI (x :: y :: l) 1 = some y := atI_nat (xs := x :: y :: l) (j := 1) rfl
theorem at2 {x y z : V} {l : List V} : atI (x :: y :: z :: l) 2 = some z := atI_nat (xs := x :: y :: z :: l) (j := 2) rfl
theorem at3 {x y z w : V} {l : List V} : atI (x :: y :: z :: w :: l) 3 = some w := atI_nat (xs := x :: y :: z :: w :: l) (j := 3) rfl
theorem ix0 {x : V} {l : List V} : ixN (x :: l).length 0 = some 0 := ixN_of (n := 0) (by simp)
theorem ix1 {x y : V} {l : List V} : ixN (x :: y :: l).length 1 = some 1 := ixN_of (n := 1) (by simp)
theorem ix2 {x y z : V} {l : List V} : ixN (x :: y :: z :: l).length 2 = some 2 := ixN_of (n := 2) (by simp)
theorem ix3 {x y z w : V} {l : List V} : ixN (x :: y :: z :: w :: l).length 3 = some 3 := ixN_of (n := 3) (by simp)
theorem tyV_lst {p : Addr} {xs : List V} (h : H p = some (.lst xs)) : tyV K "list" (.ref p) H := Or.inl ⟨rfl, _, Or.inl (Or.inl h)⟩
end
end KB
namespace KB
open PySem PySem.Spec PyProof.Rows L2
theorem walk_zipT {K : Fr} {a b : Addr} {xs ys : List V} {n : Nat} (hn : n = min xs.length ys.length) : Walk (RZ.ItzT K a b) n (fun H => SqT K H a xs ∧ SqT K H b ys) (YPair (fun i => xs[i]?) (fun i => ys[i]?)) := by
  subst hn
  refine ⟨fun i _ hi q => ?_, fun _ q => ⟨xs, ys, q.1, q.2, by omega⟩, fun i H v H' _ q y => ?_⟩
  · have h1 : i < xs.length := by omega
    have h2 : i < ys.length := by omega
    exact ⟨xs, ys, xs[i], ys[i], q.1, q.2, by simp [h1], by simp [h2]⟩
  · obtain ⟨T, x, z, h1, h2, h3, h4, h5⟩ := y
    exact ⟨T, x, z, h1, h2, h3, h4 xs q.1, h5 ys q.2⟩
section
variable {σ : L2.St} {H : Hp} {Q : VK} {wi : TI} {g : TG} {tt : TT} {te : TE} {vs : List Nat}
theorem st_lc (h : wi σ H fun J H1 => ∀ D, Fresh H1 D → ∃ W : Nat → Nat → Hp → Prop, (∃ m, W 0 m (upd H1 D (.lst []))) ∧ ∀ i m H, W i m H →
  (J.stop i H ∧ Q (.ref D) H) ∨ (J.go i H ∧ ∃ Nx : Hp → Prop, (∀ H', Nx H' → ∃ m', m' < m ∧ W (i + 1) m' H') ∧ ∀ x H', J.yld i H x H' → g x (wipe σ vs) H' fun σ2 H2 => wipe σ2 vs = wipe σ vs ∧ tt σ2 H2 fun b H3 =>
    if b = true then te σ2 H3 fun y H4 => ∃ acc, H4 D = some (.lst acc) ∧ acc.length < sizeLine ∧ Nx (upd H4 D (.lst (acc ++ [y]))) else Nx H3)) : tLc wi g tt te vs σ H Q := h
theorem st_iL {K : Fr} {tl : TE} {R : It → Hp → Prop} (h : tl σ H fun x H1 => ∃ a, x = .ref a ∧ (∃ xs, SqL K H1 a xs) ∧ R (Itl K a) H1) : iList K tl σ H R := h
theorem st_iT {K : Fr} {tl : TE} {R : It → Hp → Prop} (h : tl σ H fun x H1 => ∃ a, x = .ref a ∧ (∃ xs, SqT K H1 a xs) ∧ R (Itt K a) H1) : iTup K tl σ H R := h
theorem st_iR1 {ar : TA} {R : It → Hp → Prop} (h : ar σ H fun vs H1 => ∃ j : Int, vs = [.int j] ∧ -(2 ^ 62) ≤ j ∧ j < 2 ^ 62 ∧ R (Itr 0 j.toNat) H1) : iRng1 ar σ H R := h
theorem st_iR2 {ar : TA} {R : It → Hp → Prop} (h : ar σ H fun vs H1 => ∃ i j : Int, vs = [.int i, .int j] ∧ (-(2 ^ 62) ≤ i ∧ i < 2 ^ 62 ∧ -(2 ^ 62) ≤ j ∧ j < 2 ^ 62) ∧ R (Itr i (j - i).toNat) H1) : iRng2 ar σ H R := h
theorem st_iZA {K : Fr} {ar : TA} {R : It → Hp → Prop} (h : ar σ H fun vs H1 => ∃ a b xs ys, vs = [.ref a, .ref b] ∧ ((SqL K H1 a xs ∧ SqL K H1 b ys ∧ R (Itz K a b) H1) ∨ (SqT K H1 a xs ∧ SqT K H1 b ys ∧ R (RZ.ItzT K a b) H1))) : RZ.iZipA K ar σ H R := h
theorem st_sl {rs : V → Option Int → Option Int → Hp → VK → Prop} {tl th : TO} (h : te σ H fun x H1 => tl σ H1 fun l H2 => th σ H2 fun u H3 => rs x l u H3 Q) : tSl rs te tl th σ H Q := h
theorem st_part {QO : Option Int → Hp → Prop} (h : te σ H fun x H1 => ∃ i, x = .int i ∧ QO (some i) H1) : tPart te σ H QO := h
theorem st_nopart {QO : Option Int → Hp → Prop} (h : QO none H) : tNoPart σ H QO := h
/-- a comprehension without a test whose elements change nothing: the list of f i -/
theorem lc_map {J : It} {n : Nat} {G : Hp → Prop} {Y : Nat → Hp → V → Hp → Prop} (w : Walk J n G Y) {D : Addr} {H1 : Hp} {Qd : Hp → Prop} (f : Nat → V) (hn : n ≤ 100000) (hD : H1 D = none)
    (hG : ∀ H', Same H1 H' → G H')
    (hs : ∀ i x H H', i < n → Same H1 H → Y i H x H' → Same H H' ∧ ∀ QQ : VK, (∀ y H4, y = f i → Same H' H4 → QQ y H4) → g x (wipe σ vs) H' fun σ2 H2 => wipe σ2 vs = wipe σ vs ∧ te σ2 H2 QQ)
    (hd : ∀ H', Same H1 H' → H' D = some (.lst ((List.range n).map f)) → Qd H') :
    ∃ W : Nat → Nat → Hp → Prop, (∃ m, W 0 m (upd H1 D (.lst []))) ∧ ∀ i m H, W i m H →
      (J.stop i H ∧ Qd H) ∨ (J.go i H ∧ ∃ Nx : Hp → Prop, (∀ H', Nx H' → ∃ m', m' < m ∧ W (i + 1) m' H') ∧ ∀ x H', J.yld i H x H' → g x (wipe σ vs) H' fun σ2 H2 => wipe σ2 vs = wipe σ vs ∧ tYes σ2 H2 fun b H3 =>
        if b = true then te σ2 H3 fun y H4 => ∃ acc, H4 D = some (.lst acc) ∧ acc.length < sizeLine ∧ Nx (upd H4 D (.lst (acc ++ [y]))) else Nx H3) := by
  refine lc_it w (fun i H => Same H1 H ∧ H D = some (.lst ((List.range i).map f))) ⟨same_upd hD, upd_same⟩ (fun i H _ h => hG H h.1) (fun i x H H' hi h y => ?_) (fun H h => hd H h.1 h.2)
  obtain ⟨s1, hg⟩ := hs i x H H' hi h.1 y
  exact hg _ fun y H4 ey s4 => by
    have hD4 : H4 D = some (.lst ((List.range i).map f)) := s4 _ _ (s1 _ _ h.2)
    refine ⟨_, hD4, small (by rw [List.length_map, List.length_range]; omega), same_mut ((h.1.trans s1).trans s4) hD, ?_⟩
    rw [upd_same, List.range_succ, List.map_append, ey]
    rfl
end
end KB
/-! ### disks -/
namespace KB
open PySem PySem.Spec PyProof.Rows L2
theorem cxK {CX : CXT} {P : Program} {w : World} {K : Fr} {mg : Str → Option Value} {base : Heap} {N : List Str} {qual : Str} {scope : Scope} {f : Addr} {cd : Value} {A : Around} {outer : List Env} {s : Shared} {H : Hp} {E : XK} :
    (cxOf CX P w K mg base N qual scope f cd A outer s H E).nox.K = K := rfl
theorem cxK' {CX : CXT} {P : Program} {w : World} {K : Fr} {mg : Str → Option Value} {base : Heap} {N : List Str} {qual : Str} {scope : Scope} {f : Addr} {cd : Value} {A : Around} {outer : List Env} {s : Shared} {H : Hp} {E : XK} :
    (cxOf CX P w K mg base N qual scope f cd A outer s H E).K = K := rfl
structure DiskS where
  shown : List V
  synced : List V
  wait : List (Nat × V)
  r : Int
  w : Int
  s : Int
namespace DiskS
def new (n : Nat) (v : V) : DiskS := ⟨List.replicate n v, List.replicate n v, [], 0, 0, 0⟩
def read (D : DiskS) : DiskS := { D with r := D.r + 1 }
def write (D : DiskS) (n : Nat) (v : V) : DiskS := { D with shown := D.shown.set n v, wait := D.wait ++ [(n, v)], w := D.w + 1 }
def sync (D : DiskS) : DiskS := { D with synced := D.shown, wait := [], s := D.s + 1 }
def put1 (wait : List (Nat × V)) (l : List V) (k : Nat) : List V := match wait[k]? with
  | some e => l.set e.1 e.2
  | none => l
def after (D : DiskS) (ks : List Nat) : List V := ks.foldl (put1 D.wait) D.synced
def fail (D : DiskS) (ks : List Nat) : DiskS := { D with synced := D.after ks, shown := D.after ks, wait := [] }
def tally (D : DiskS) : List V := [.int D.r, .int D.w, .int D.s]
/-- how many cells; what waits is in range -/
structure Ok (D : DiskS) (m : Nat) : Prop where
  l1 : D.shown.length = m
  l2 : D.synced.length = m
  wt : ∀ e ∈ D.wait, e.1 < m
theorem Ok.new {n : Nat} {v : V} : (new n v).Ok n := ⟨List.length_replicate, List.length_replicate, fun _ h => nomatch h⟩
theorem Ok.read {D : DiskS} {m : Nat} (h : D.Ok m) : D.read.Ok m := ⟨h.l1, h.l2, h.wt⟩
theorem Ok.write {D : DiskS} {m n : Nat} {v : V} (h : D.Ok m) (hn : n < m) : (D.write n v).Ok m := ⟨(List.length_set ..).trans h.l1, h.l2, fun e he => by
  rcases List.mem_append.mp he with z | z
  · exact h.wt e z
  · rw [List.mem_singleton.mp z]
    exact hn⟩
theorem Ok.sync {D : DiskS} {m : Nat} (h : D.Ok m) : D.sync.Ok m := ⟨h.l1, h.l1, fun _ h => nomatch h⟩
theorem put1_len {wait : List (Nat × V)} {l : List V} {k : Nat} : (put1 wait l k).length = l.length := by
  unfold put1
  cases wait[k]? with
  | none => rfl
  | some e => exact List.length_set ..
theorem fold_len {wait : List (Nat × V)} : ∀ {ks : List Nat} {l : List V}, (ks.foldl (put1 wait) l).length = l.length
  | [], _ => rfl
  | k :: ks, l => (fold_len (ks := ks)).trans put1_len
theorem after_len {D : DiskS} {ks : List Nat} : (D.after ks).length = D.synced.length := fold_len
theorem Ok.fail {D : DiskS} {m : Nat} {ks : List Nat} (h : D.Ok m) : (D.fail ks).Ok m := ⟨after_len.trans h.l2, after_len.trans h.l2, fun _ h => nomatch h⟩
end DiskS
def dFlds (a b c t : Addr) : List (Str × V) := [("shown", .ref a), ("synced", .ref b), ("waiting", .ref c), ("tally", .ref t)]
/-- the tuples that wait -/
structure Waits (H : Hp) (ws : List V) (wait : List (Nat × V)) : Prop where
  len : ws.length = wait.length
  at_ : ∀ (i : Nat) (n : Nat) (v : V), wait[i]? = some (n, v) → ∃ t, ws[i]? = some (.ref t) ∧ H t = some (.tup [.int (n : Int), v])
theorem Waits.nil {H : Hp} : Waits H [] [] := ⟨rfl, fun i n v h => by simp at h⟩
theorem Waits.mv {H H' : Hp} {fp fp' : List Addr} {ws : List V} {wait : List (Nat × V)} (w : Waits H ws wait) (m : Mv fp fp' H H') : Waits H' ws wait := ⟨w.len, fun i n v h => by
  obtain ⟨t, h1, h2⟩ := w.at_ i n v h
  exact ⟨t, h1, m.tup h2⟩⟩
theorem Waits.tups {H H' : Hp} {ws : List V} {wait : List (Nat × V)} (w : Waits H ws wait) (m : ∀ t xs, H t = some (.tup xs) → H' t = some (.tup xs)) : Waits H' ws wait := ⟨w.len, fun i n v h => by
  obtain ⟨t, h1, h2⟩ := w.at_ i n v h
  exact ⟨t, h1, m _ _ h2⟩⟩
theorem Waits.snoc {H : Hp} {ws : List V} {wait : List (Nat × V)} {n : Nat} {v : V} {t : Addr} (w : Waits H ws wait) (h : H t = some (.tup [.int (n : Int), v])) : Waits H (ws ++ [.ref t]) (wait ++ [(n, v)]) := by
  refine ⟨by rw [List.length_append, List.length_append, w.len]; rfl, fun i m u e => ?_⟩
  by_cases hi : i < wait.length
  · rw [List.getElem?_append_left hi] at e
    obtain ⟨t', h1, h2⟩ := w.at_ i m u e
    exact ⟨t', by rw [List.getElem?_append_left (by rw [w.len]; exact hi)]; exact h1, h2⟩
  · rw [List.getElem?_append_right (by omega)] at e
    have hj : i - wait.length = 0 := by
      have := (List.getElem?_eq_some_iff.mp e).1
      simp at this
      omega
    rw [hj] at e
    simp at e
    obtain ⟨rfl, rfl⟩ := e
    refine ⟨t, ?_, h⟩
    rw [List.getElem?_append_right (by rw [w.len]; omega), w.len, hj]
    rfl
structure DiskAt (C : Addr) (H : Hp) (p : Addr) (fp : List Addr) (m : Nat) (D : DiskS) : Prop where
  ok : D.Ok m
  ex : ∃ (dx a b c t : Addr) (ws : List V), H p = some (.ins C dx (dFlds a b c t)) ∧ H a = some (.lst D.shown) ∧ H b = some (.lst D.synced) ∧ H c = some (.lst ws) ∧ H t = some (.lst D.tally) ∧ Waits H ws D.wait ∧
    fp = [p, a, b, c, t] ∧ a ≠ b ∧ a ≠ c ∧ a ≠ t ∧ b ≠ c ∧ b ≠ t ∧ c ≠ t
theorem DiskAt.mu {C : Addr} {H : Hp} {p : Addr} {fp : List Addr} {m : Nat} {D : DiskS} (d : DiskAt C H p fp m D) : ∀ a ∈ fp, Mu H a := by
  obtain ⟨dx, a, b, c, t, ws, h1, h2, h3, h4, h5, _, rfl, _⟩ := d.ex
  intro x hx
  simp only [List.mem_cons, List.not_mem_nil, or_false] at hx
  rcases hx with rfl | rfl | rfl | rfl | rfl
  · exact ⟨_, h1, rfl⟩
  · exact ⟨_, h2, rfl⟩
  · exact ⟨_, h3, rfl⟩
  · exact ⟨_, h4, rfl⟩
  · exact ⟨_, h5, rfl⟩
theorem DiskAt.mv {C : Addr} {H H' : Hp} {p : Addr} {fp q q' : List Addr} {m : Nat} {D : DiskS} (d : DiskAt C H p fp m D) (mv : Mv q q' H H') (hd : Disj q fp) : DiskAt C H' p fp m D := by
  obtain ⟨ok, dx, a, b, c, t, ws, h1, h2, h3, h4, h5, hw, rfl, hne⟩ := d
  have n : ∀ x ∈ [p, a, b, c, t], x ∉ q := fun x hx hq => hd x hq hx
  simp only [List.mem_cons, List.not_mem_nil, or_false, forall_eq_or_imp, forall_eq] at n
  obtain ⟨n1, n2, n3, n4, n5⟩ := n
  exact ⟨ok, dx, a, b, c, t, ws, mv.keep _ _ h1 n1, mv.keep _ _ h2 n2, mv.keep _ _ h3 n3, mv.keep _ _ h4 n4, mv.keep _ _ h5 n5, hw.mv mv, rfl, hne⟩
theorem DiskAt.same {C : Addr} {H H' : Hp} {p : Addr} {fp : List Addr} {m : Nat} {D : DiskS} (d : DiskAt C H p fp m D) (s : Same H H') : DiskAt C H' p fp m D :=
  d.mv (Mv.ofSame s) (fun _ h => nomatch h)
theorem DiskAt.inFp {C : Addr} {H : Hp} {p : Addr} {fp : List Addr} {m : Nat} {D : DiskS} (d : DiskAt C H p fp m D) : p ∈ fp := by
  obtain ⟨dx, a, b, c, t, ws, _, _, _, _, _, _, rfl, _⟩ := d.ex
  exact List.mem_cons_self
theorem ne_lst_ins {H : Hp} {a p C dx : Addr} {xs : List V} {fs : List (Str × V)} (h1 : H a = some (.lst xs)) (h2 : H p = some (.ins C dx fs)) : a ≠ p := ne_of h1 h2 (by intro z; cases z)
theorem ne_tup_ins {H : Hp} {a p C dx : Addr} {xs : List V} {fs : List (Str × V)} (h1 : H a = some (.tup xs)) (h2 : H p = some (.ins C dx fs)) : a ≠ p := ne_of h1 h2 (by intro z; cases z)
theorem ne_tup_lst {H : Hp} {a p : Addr} {xs ys : List V} (h1 : H a = some (.tup xs)) (h2 : H p = some (.lst ys)) : a ≠ p := ne_of h1 h2 (by intro z; cases z)
end KB
namespace KB
open PySem PySem.Spec PyProof.Rows L2
theorem putF_ne {f g : Str} {v x : V} {r : List (Str × V)} (h : ¬ g = f) : putF f v ((g, x) :: r) = (g, x) :: putF f v r := if_neg h
theorem putF_eq {f : Str} {v x : V} {r : List (Str × V)} : putF f v ((f, x) :: r) = (f, v) :: r := if_pos rfl
theorem dF_shown {a b c t l : Addr} : putF "shown" (.ref l) (dFlds a b c t) = dFlds l b c t := putF_eq
theorem dF_synced {a b c t l : Addr} : putF "synced" (.ref l) (dFlds a b c t) = dFlds a l c t := by
  unfold dFlds
  rw [putF_ne (by decide +kernel), putF_eq]
theorem dF_waiting {a b c t l : Addr} : putF "waiting" (.ref l) (dFlds a b c t) = dFlds a b l t := by
  unfold dFlds
  rw [putF_ne (by decide +kernel), putF_ne (by decide +kernel), putF_eq]
end KB
namespace KB
open PySem PySem.Spec PyProof.Rows L2
/-- what was known is known -/
def Kn (H H1 : Hp) : Prop := ∀ x o, H x = some o → ∃ o', H1 x = some o'
theorem Kn.refl {H : Hp} : Kn H H := fun _ o e => ⟨o, e⟩
theorem Kn.upd {H H1 : Hp} {a : Addr} {o : HO} (k : Kn H H1) : Kn H (upd H1 a o) := fun x u e => by
  by_cases h : x = a
  · subst h
    exact ⟨o, upd_same⟩
  · rw [upd_ne h]
    exact k x u e
theorem Kn.same {H H1 H2 : Hp} (k : Kn H H1) (s : Same H1 H2) : Kn H H2 := fun x u e => by
  obtain ⟨o, q⟩ := k x u e
  exact ⟨o, s _ _ q⟩
theorem Kn.ofSame {H H1 : Hp} (s : Same H H1) : Kn H H1 := fun x u e => ⟨u, s _ _ e⟩
theorem ne_new {H H1 : Hp} {x q : Addr} {o : HO} (k : Kn H H1) (hq : H1 q = none) (e : H x = some o) : x ≠ q := by
  obtain ⟨o', h⟩ := k x o e
  exact ne_of_none h hq
theorem Kn.free {H H1 : Hp} {q : Addr} (k : Kn H H1) (hq : H1 q = none) : H q = none := by
  cases e : H q with
  | none => rfl
  | some o =>
    obtain ⟨o', h⟩ := k q o e
    rw [hq] at h
    cases h
end KB
namespace KB
open PySem PySem.Spec PyProof.Rows L2
/-- as Okf, with one keyword-only parameter at the end, which has a default -/
def OkfK (P : Program) (w : World) (K : Fr) (mg : Str → Option Value) (base : Heap) (CX : CXT) (k : Nat) (f : Addr) (ps : List Str) (sp : Sp) (n : Nat) (kw : Str) (d : V) : Prop :=
  ∃ fd, FnOk P w K mg base CX k f fd ps sp ∧ PySem.W.keepIn K (.ref f) = true ∧ (∃ ds, Vals [d] ds ∧ Binds K fd ps ds) ∧ ∃ g, KBn K fd ps n [kw] g (fun vs zs => vs ++ zs)
theorem rep_flat {m : Nat} {v : V} : (List.replicate m [v]).flatten = List.replicate m v := by
  induction m with
  | zero => rfl
  | succ m ih =>
    rw [List.replicate_succ, List.flatten_cons, ih, List.replicate_succ]
    rfl
end KB
namespace KB
open PySem PySem.Spec PyProof.Rows L2
theorem TyX.same {K : Fr} {H H' : Hp} {v : V} {t : Value} (s : Same H H') (h : TyX K H v t) : TyX K H' v t := by
  cases h with
  | base b =>
    cases b with
    | non => exact .base .non
    | bl x => exact .base (.bl x)
    | int i => exact .base (.int i)
    | str x => exact .base (.str x)
    | flt x => exact .base (.flt x)
    | lst e => exact .base (.lst (s _ _ e))
    | frz e => exact .base (.frz (s _ _ e))
    | tup e => exact .base (.tup (s _ _ e))
    | dK e => exact .base (.dK (s _ _ e))
    | dT e => exact .base (.dT (s _ _ e))
    | ins e cl ha hn htk hm => exact .base (.ins (s _ _ e) cl ha hn htk hm)
  | byt b => exact .byt b
  | set e => exact .set (s _ _ e)
  | kList e c => exact .kList e c
  | kTuple e c => exact .kTuple e c
  | kDict e c => exact .kDict e c
  | fTuple e => exact .fTuple (s _ _ e)
  | fDict e => exact .fDict (s _ _ e)
theorem SqT.ty {K : Fr} {H : Hp} {a : Addr} {xs : List V} (h : SqT K H a xs) : TyX K H (.ref a) (.type "tuple") := by
  rcases h with (h | ⟨o, h⟩) | ⟨o, its, n, h, c, _⟩
  · exact .base (.tup h)
  · exact .fTuple h
  · exact .kTuple h c
def intOf : V → Int
  | .int i => i
  | _ => 0
/-- each below the next -/
def ltN (xs : List V) (i : Nat) : Bool := decide (intOf (xs.getD i .non) < intOf (xs.getD (i + 1) .non))
def ascV (xs : List V) (many : Int) : Bool := xs.all (inV' 0 (many - 1)) && (List.range (xs.length - 1)).all (ltN xs)
theorem inV'_int {lo hi : Int} {v : V} (h : inV' lo hi v = true) : ∃ i, v = .int i ∧ lo ≤ i ∧ i ≤ hi := by
  cases v with
  | int i =>
    have h2 : (decide (lo ≤ i) && decide (i ≤ hi)) = true := h
    rw [Bool.and_eq_true] at h2
    exact ⟨i, rfl, of_decide_eq_true h2.1, of_decide_eq_true h2.2⟩
  | _ => cases h
theorem range_all {α : Type} {xs : List α} {d : α} {f : α → Bool} : ((List.range xs.length).map fun i => f (xs.getD i d)).all id = xs.all f := by
  have e : (List.range xs.length).map (fun i => xs.getD i d) = xs := by
    refine List.ext_getElem (by simp) fun i h1 h2 => ?_
    simp [List.getElem_map, List.getElem_range]
    rw [List.getElem?_eq_getElem h2]
    rfl
  have e2 : (List.range xs.length).map (fun i => f (xs.getD i d)) = ((List.range xs.length).map (fun i => xs.getD i d)).map f := by
    rw [List.map_map]
    rfl
  rw [e2, e]
  simp [List.all_map, Function.comp_def]
theorem nats_asc {ks : List Nat} {m : Nat} (h1 : ks.Pairwise (· < ·)) (h2 : ∀ k ∈ ks, k < m) : ascV (ks.map fun k => V.int ((k : Nat) : Int)) (m : Int) = true := by
  unfold ascV
  rw [Bool.and_eq_true]
  refine ⟨?_, ?_⟩
  · rw [List.all_eq_true]
    intro x hx
    obtain ⟨k, hk, rfl⟩ := List.mem_map.mp hx
    have := h2 k hk
    show (decide ((0 : Int) ≤ ((k : Nat) : Int)) && decide (((k : Nat) : Int) ≤ (m : Int) - 1)) = true
    rw [decide_eq_true (by omega), decide_eq_true (by omega)]
    rfl
  · rw [List.all_eq_true]
    intro i hi
    rw [List.mem_range, List.length_map] at hi
    unfold ltN
    refine decide_eq_true ?_
    have g1 : (ks.map fun k => V.int ((k : Nat) : Int)).getD i .non = .int (((ks[i]'(by omega) : Nat)) : Int) := by
      rw [List.getD_eq_getElem?_getD, List.getElem?_map, List.getElem?_eq_getElem (by omega)]
      rfl
    have g2 : (ks.map fun k => V.int ((k : Nat) : Int)).getD (i + 1) .non = .int (((ks[i + 1]'(by omega) : Nat)) : Int) := by
      rw [List.getD_eq_getElem?_getD, List.getElem?_map, List.getElem?_eq_getElem (by omega)]
      rfl
    rw [g1, g2]
    show ((ks[i]'(by omega) : Nat) : Int) < ((ks[i + 1]'(by omega) : Nat) : Int)
    have := (List.pairwise_iff_getElem.mp h1) i (i + 1) (by omega) (by omega) (by omega)
    omega
end KB
/-! ### data -/
namespace KB
open PySem PySem.Spec PyProof.Rows L2
def pdF : V → PyData
  | .bl b => .bool b
  | .int i => .int i
  | .str x => .str x
  | _ => .none
/-- None, a bool, an int -/
def isFl : V → Bool
  | .non => true
  | .bl _ => true
  | .int _ => true
  | _ => false
structure Shp (d : PyData) (n : Nat) : Prop where
  can : d.canLay0 = true
  dep : d.depth ≤ n
theorem Shp.ok {d : PyData} {n : Nat} (h : Shp d n) (hn : n ≤ 64 := by decide) : SeqAt.shaped d = true := by
  unfold SeqAt.shaped
  rw [h.can, decide_eq_true (Nat.le_trans h.dep hn)]
  rfl
theorem Shp.eqv {d : PyData} {n : Nat} (h : Shp d n) : PyData.eqv d d = true := SeqAt.eqv_refl d h.can
theorem Shp.all : ∀ {ds : List PyData} {n : Nat}, (∀ d ∈ ds, Shp d n) → PyData.canLayAll0 ds = true ∧ PyData.depthAll ds ≤ n
  | [], _, _ => ⟨rfl, Nat.zero_le _⟩
  | d :: ds, n, h => by
    have h1 := h d List.mem_cons_self
    have h2 := Shp.all (ds := ds) (n := n) fun x hx => h x (List.mem_cons_of_mem _ hx)
    refine ⟨?_, ?_⟩
    · show (d.canLay0 && PyData.canLayAll0 ds) = true
      rw [h1.can, h2.1]
      rfl
    · show max d.depth (PyData.depthAll ds) ≤ n
      exact Nat.max_le.mpr ⟨h1.dep, h2.2⟩
theorem Shp.tuple {ds : List PyData} {n : Nat} (h : ∀ d ∈ ds, Shp d n) : Shp (.tuple ds) (n + 1) := ⟨(Shp.all h).1, Nat.succ_le_succ (Shp.all h).2⟩
theorem Shp.list {ds : List PyData} {n : Nat} (h : ∀ d ∈ ds, Shp d n) : Shp (.list ds) (n + 1) := ⟨(Shp.all h).1, Nat.succ_le_succ (Shp.all h).2⟩
theorem Shp.mono {d : PyData} {n m : Nat} (h : Shp d n) (hm : n ≤ m) : Shp d m := ⟨h.can, Nat.le_trans h.dep hm⟩
theorem Shp.flat {v : V} (h : isFl v = true) : Shp (pdF v) 0 := by
  cases v with
  | non => exact ⟨rfl, Nat.le_refl _⟩
  | bl b => exact ⟨rfl, Nat.le_refl _⟩
  | int i => exact ⟨rfl, Nat.le_refl _⟩
  | _ => cases h
theorem dp_flat {K : Fr} {H : Hp} {v : V} (h : isFl v = true) : Dp K H v (pdF v) := by
  cases v with
  | non => exact .non
  | bl b => exact .bl b
  | int i => exact .int i
  | _ => cases h
theorem dpAll_flat {K : Fr} {H : Hp} : ∀ {vs : List V}, (∀ v ∈ vs, isFl v = true) → DpAll K H vs (vs.map pdF)
  | [], _ => .nil
  | v :: vs, h => .cons (dp_flat (h v List.mem_cons_self)) (dpAll_flat fun x hx => h x (List.mem_cons_of_mem _ hx))
theorem shp_flats {vs : List V} (h : ∀ v ∈ vs, isFl v = true) : ∀ d ∈ vs.map pdF, Shp d 0 := fun d hd => by
  obtain ⟨v, hv, rfl⟩ := List.mem_map.mp hd
  exact Shp.flat (h v hv)
/-- two tuples of the same flat values -/
theorem neD_same {K : Fr} {H : Hp} {p q : Addr} {vs : List V} {Q : VK} (h1 : H p = some (.tup vs)) (h2 : H q = some (.tup vs)) (hf : ∀ v ∈ vs, isFl v = true) (k : Q (.bl false) H) : rNeD K (.ref p) (.ref q) H Q := by
  have s : Shp (.tuple (vs.map pdF)) 1 := Shp.tuple (shp_flats hf)
  refine ⟨_, _, .tup (SqT.of h1) (dpAll_flat hf), .tup (SqT.of h2) (dpAll_flat hf), s.ok, s.ok, ?_⟩
  rw [s.eqv]
  exact k
theorem neD_nil {K : Fr} {H : Hp} {p q : Addr} {Q : VK} (h1 : H p = some (.lst [])) (h2 : H q = some (.lst [])) (k : Q (.bl false) H) : rNeD K (.ref p) (.ref q) H Q :=
  ⟨_, _, .lst (SqL.of h1) .nil, .lst (SqL.of h2) .nil, rfl, rfl, k⟩
theorem st_tupRg {σ : L2.St} {H : Hp} {Q : VK} {te : L2.St → Hp → (Int → Int → Hp → Prop) → Prop} (h : te σ H fun a b H1 => RgOk a b ∧ ∀ q, Fresh H1 q → Q (.ref q) (upd H1 q (.tup (rgV a b)))) : tTupRg te σ H Q := h
theorem st_rg1 {σ : L2.St} {H : Hp} {ta : TE} {QQ : Int → Int → Hp → Prop} (h : ta σ H fun x H1 => ∃ n, x = .int n ∧ QQ 0 n H1) : tRg1 ta σ H QQ := h
theorem rgV_nat {n : Nat} : rgV 0 (n : Int) = (List.range n).map fun k => V.int ((k : Nat) : Int) := by
  unfold rgV
  have e : ((n : Int) - 0).toNat = n := by omega
  rw [e]
  refine List.map_congr_left fun i _ => ?_
  rw [Int.zero_add]
/-! ### disks: what is kept is what was written -/
namespace DiskS
theorem put1_left {w w' : List (Nat × V)} {l : List V} {k : Nat} (h : k < w.length) : put1 (w ++ w') l k = put1 w l k := by
  unfold put1
  rw [List.getElem?_append_left h]
theorem fold_left {w w' : List (Nat × V)} : ∀ {ks : List Nat} {l : List V}, (∀ k ∈ ks, k < w.length) → ks.foldl (put1 (w ++ w')) l = ks.foldl (put1 w) l
  | [], _, _ => rfl
  | k :: ks, l, h => by
    rw [List.foldl_cons, List.foldl_cons, put1_left (h k List.mem_cons_self)]
    exact fold_left fun x hx => h x (List.mem_cons_of_mem _ hx)
/-- with all that waits it is as shown -/
def Full (D : DiskS) : Prop := D.after (List.range D.wait.length) = D.shown
theorem Full.new {n : Nat} {v : V} : (new n v).Full := rfl
theorem Full.read {D : DiskS} (h : D.Full) : D.read.Full := h
theorem Full.write {D : DiskS} {n : Nat} {v : V} (h : D.Full) : (D.write n v).Full := by
  unfold Full after
  show (List.range (D.wait ++ [(n, v)]).length).foldl (put1 (D.wait ++ [(n, v)])) D.synced = D.shown.set n v
  rw [List.length_append]
  show (List.range (D.wait.length + 1)).foldl _ _ = _
  rw [List.range_succ, List.foldl_append, fold_left (fun k hk => List.mem_range.mp hk)]
  show put1 (D.wait ++ [(n, v)]) (D.after (List.range D.wait.length)) D.wait.length = _
  rw [show D.after (List.range D.wait.length) = D.shown from h]
  unfold put1
  rw [List.getElem?_append_right (Nat.le_refl _), Nat.sub_self]
  rfl
theorem Full.sync {D : DiskS} : D.sync.Full := rfl
theorem Full.fail {D : DiskS} {ks : List Nat} : (D.fail ks).Full := rfl
/-- what wait[k] is, written -/
def writes (D : DiskS) (w : List (Nat × V)) (ks : List Nat) : DiskS := ks.foldl (fun D k => match w[k]? with
  | some e => D.write e.1 e.2
  | none => D) D
theorem writes_shown {w : List (Nat × V)} : ∀ {ks : List Nat} {D : DiskS}, (D.writes w ks).shown = ks.foldl (put1 w) D.shown
  | [], _ => rfl
  | k :: ks, D => by
    unfold writes
    rw [List.foldl_cons, List.foldl_cons]
    show (writes _ w ks).shown = _
    rw [writes_shown (ks := ks)]
    congr 1
    unfold put1
    cases w[k]? with
    | none => rfl
    | some e => rfl
end DiskS
theorem set_all {vs : List V} {n : Nat} {v : V} {P : V → Prop} (h : ∀ x ∈ vs, P x) (hv : P v) : ∀ x ∈ vs.set n v, P x := fun x hx => by
  rcases List.mem_or_eq_of_mem_set hx with z | z
  · exact h x z
  · rw [z]
    exact hv
end KB
namespace KB
open PySem PySem.Spec PyProof.Rows L2
theorem DiskAt.ins {C : Addr} {H : Hp} {p : Addr} {fp : List Addr} {m : Nat} {D : DiskS} (d : DiskAt C H p fp m D) : ∃ dx a b c t, H p = some (.ins C dx (dFlds a b c t)) := by
  obtain ⟨dx, a, b, c, t, ws, h1, _⟩ := d.ex
  exact ⟨dx, a, b, c, t, h1⟩
theorem ex_meth {C : Addr} {H : Hp} {p : Addr} {fp : List Addr} {m : Nat} {D : DiskS} {nm : Str} {R : Prop} (d : DiskAt C H p fp m D) (hn : ∀ a b c t, (dFlds a b c t).lookup nm = none) (r : R) :
    ∃ a dx fs, V.ref p = V.ref a ∧ H a = some (.ins C dx fs) ∧ fs.lookup nm = none ∧ R := by
  obtain ⟨dx, a, b, c, t, h1⟩ := d.ins
  exact ⟨p, dx, _, rfl, h1, hn _ _ _ _, r⟩
theorem ex_prop {C : Addr} {H : Hp} {p : Addr} {fp : List Addr} {m : Nat} {D : DiskS} {R : Addr → Prop} (d : DiskAt C H p fp m D) (r : R p) :
    ∃ a dx fs, V.ref p = V.ref a ∧ H a = some (.ins C dx fs) ∧ R a := by
  obtain ⟨dx, a, b, c, t, h1⟩ := d.ins
  exact ⟨p, dx, _, rfl, h1, r⟩
/-- a new instance: what was known stands, its footprint is new -/
theorem made {H H2 : Hp} {x dx C : Addr} {fp : List Addr} (nx : H x = none) (nd : H dx = none) (keep : ∀ b o, (upd (upd H dx (.own x)) x (.ins C dx [])) b = some o → b ≠ x → H2 b = some o)
    (fr : ∀ a ∈ fp, a = x ∨ (upd (upd H dx (.own x)) x (.ins C dx [])) a = none) : Same H H2 ∧ ∀ a ∈ fp, H a = none := by
  refine ⟨Same.made nx nd keep, fun a ha => ?_⟩
  rcases fr a ha with rfl | h
  · exact nx
  · exact Kn.free (Kn.upd (Kn.upd Kn.refl)) h
theorem disj_new {H : Hp} {p q : List Addr} (hp : ∀ a ∈ p, H a = none) (hq : ∀ a ∈ q, Mu H a) : Disj p q := fun a h1 h2 => by
  obtain ⟨o, e, _⟩ := hq a h2
  rw [hp a h1] at e
  cases e
theorem Rng.mus {H : Hp} {d : Addr} (r : Rng H d) : ∀ a ∈ [d], Mu H a := fun a h => by
  rw [List.mem_singleton.mp h]
  exact r.mu
/-- the source and two disks -/
structure Two (C : Addr) (H : Hp) (d p q : Addr) (fp fq : List Addr) (m : Nat) (D T : DiskS) : Prop where
  r : Rng H d
  dp : DiskAt C H p fp m D
  dq : DiskAt C H q fq m T
  j1 : Disj [d] fp
  j2 : Disj [d] fq
  j3 : Disj fp fq
section
variable {C : Addr} {H H' : Hp} {d p q : Addr} {fp fq fp' : List Addr} {m : Nat} {D T D' : DiskS}
theorem nin_of {d : Addr} {q : List Addr} (h : Disj [d] q) : d ∉ q := fun z => h d (List.mem_singleton.mpr rfl) z
theorem Two.draw (w : Two C H d p q fp fq m D T) (r : Rng H' d) (mv : Mv [d] [d] H H') : Two C H' d p q fp fq m D T := ⟨r, w.dp.mv mv w.j1, w.dq.mv mv w.j2, w.j1, w.j2, w.j3⟩
theorem Two.same (w : Two C H d p q fp fq m D T) (s : Same H H') : Two C H' d p q fp fq m D T := ⟨w.r.same s, w.dp.same s, w.dq.same s, w.j1, w.j2, w.j3⟩
theorem Two.left (w : Two C H d p q fp fq m D T) (hD : DiskAt C H' p fp' m D') (mv : Mv fp fp' H H') : Two C H' d p q fp' fq m D' T :=
  ⟨w.r.keep mv (nin_of w.j1), hD, w.dq.mv mv w.j3, (mv.disj w.j1.symm w.r.mus).symm, w.j2, mv.disj w.j3 w.dq.mu⟩
theorem Two.right (w : Two C H d p q fp fq m D T) (hD : DiskAt C H' q fp' m D') (mv : Mv fq fp' H H') : Two C H' d p q fp fp' m D D' :=
  ⟨w.r.keep mv (nin_of w.j2), w.dp.mv mv w.j3.symm, hD, w.j1, (mv.disj w.j2.symm w.r.mus).symm, (mv.disj w.j3.symm w.dp.mu).symm⟩
end
end KB
/-! ### the law's own disk -/
namespace KB
open PySem PySem.Spec PyProof.Rows L2
structure RefAt (H : Hp) (q : Addr) (fq : List Addr) (m : Nat) (D : DiskS) : Prop where
  ok : D.Ok m
  ex : ∃ (a b c t : Addr) (ws : List V), H q = some (.lst [.ref a, .ref b, .ref c, .ref t]) ∧ H a = some (.lst D.shown) ∧ H b = some (.lst D.synced) ∧ H c = some (.lst ws) ∧ H t = some (.lst D.tally) ∧ Waits H ws D.wait ∧
    fq = [q, a, b, c, t] ∧ (q ≠ a ∧ q ≠ b ∧ q ≠ c ∧ q ≠ t) ∧ (a ≠ b ∧ a ≠ c ∧ a ≠ t) ∧ (b ≠ c ∧ b ≠ t) ∧ c ≠ t
theorem RefAt.mu {H : Hp} {p : Addr} {fp : List Addr} {m : Nat} {D : DiskS} (d : RefAt H p fp m D) : ∀ a ∈ fp, Mu H a := by
  obtain ⟨a, b, c, t, ws, h1, h2, h3, h4, h5, _, rfl, _⟩ := d.ex
  intro x hx
  simp only [List.mem_cons, List.not_mem_nil, or_false] at hx
  rcases hx with rfl | rfl | rfl | rfl | rfl
  · exact ⟨_, h1, rfl⟩
  · exact ⟨_, h2, rfl⟩
  · exact ⟨_, h3, rfl⟩
  · exact ⟨_, h4, rfl⟩
  · exact ⟨_, h5, rfl⟩
theorem RefAt.mv {H H' : Hp} {p : Addr} {fp q q' : List Addr} {m : Nat} {D : DiskS} (d : RefAt H p fp m D) (mv : Mv q q' H H') (hd : Disj q fp) : RefAt H' p fp m D := by
  obtain ⟨ok, a, b, c, t, ws, h1, h2, h3, h4, h5, hw, rfl, hne⟩ := d
  have n : ∀ x ∈ [p, a, b, c, t], x ∉ q := fun x hx hq => hd x hq hx
  simp only [List.mem_cons, List.not_mem_nil, or_false, forall_eq_or_imp, forall_eq] at n
  obtain ⟨n1, n2, n3, n4, n5⟩ := n
  exact ⟨ok, a, b, c, t, ws, mv.keep _ _ h1 n1, mv.keep _ _ h2 n2, mv.keep _ _ h3 n3, mv.keep _ _ h4 n4, mv.keep _ _ h5 n5, hw.mv mv, rfl, hne⟩
theorem RefAt.same {H H' : Hp} {p : Addr} {fp : List Addr} {m : Nat} {D : DiskS} (d : RefAt H p fp m D) (s : Same H H') : RefAt H' p fp m D :=
  d.mv (Mv.ofSame s) (fun _ h => nomatch h)
theorem st_eqB {H : Hp} {Q : VK} {i j : Bool} (h : Q (.bl (decide (i = j))) H) : rEq (.bl i) (.bl j) H Q := ⟨rfl, by
  have e : decide (V.bl i = V.bl j) = decide (i = j) := by cases i <;> cases j <;> rfl
  rw [e]
  exact h⟩
theorem st_neB {H : Hp} {Q : VK} {i j : Bool} (h : Q (.bl (!decide (i = j))) H) : rNe (.bl i) (.bl j) H Q := ⟨rfl, by
  have e : decide (V.bl i = V.bl j) = decide (i = j) := by cases i <;> cases j <;> rfl
  rw [e]
  exact h⟩
theorem st_isi {K : Fr} {H : Hp} {Q : VK} {x : V} {n T : String} {b : Bool} (ht : TyX K H x (.type n)) (e : kitB n T = some b) (h : Q (.bl b) H) : rIsi K [x, .ty T] H Q := ⟨_, _, _, _, _, rfl, .ty T, ht, kit_ty e, h⟩
def tyD : PyData → String
  | .none => "NoneType"
  | .bool _ => "bool"
  | .int _ => "int"
  | .str _ => "str"
  | .list _ => "list"
  | .tuple _ => "tuple"
  | .dict _ => "dict"
theorem tyD_mem (d : PyData) : tyD d ∈ tyNames := by
  cases d <;> simp [tyD, tyNames]
end KB
namespace L2
open PySem PySem.Spec PyProof.Rows KB
theorem Dp.ty {K : Fr} {H : Hp} {v : V} {d : PyData} (h : Dp K H v d) : TyX K H v (.type (tyD d)) := by
  cases h with
  | non => exact .base .non
  | bl b => exact .base (.bl b)
  | int i => exact .base (.int i)
  | str x => exact .base (.str x)
  | lst h _ =>
    rcases h with (h | ⟨o, h⟩) | ⟨o, its, n, h, c, _⟩
    · exact .base (.lst h)
    · exact .base (.frz h)
    · exact .kList h c
  | tup h _ => exact KB.SqT.ty h
mutual
theorem Dp.same {K : Fr} {H H' : Hp} (s : Same H H') : ∀ {v : V} {d : PyData}, Dp K H v d → Dp K H' v d
  | _, _, .non => .non
  | _, _, .bl b => .bl b
  | _, _, .int i => .int i
  | _, _, .str x => .str x
  | _, _, .lst h a => .lst (s.seq h) (DpAll.same s a)
  | _, _, .tup h a => .tup (KB.SqT.same s h) (DpAll.same s a)
theorem DpAll.same {K : Fr} {H H' : Hp} (s : Same H H') : ∀ {vs : List V} {ds : List PyData}, DpAll K H vs ds → DpAll K H' vs ds
  | _, _, .nil => .nil
  | _, _, .cons h t => .cons (Dp.same s h) (DpAll.same s t)
end
theorem DpAll.len {K : Fr} {H : Hp} : ∀ {vs : List V} {ds : List PyData}, DpAll K H vs ds → vs.length = ds.length
  | _, _, .nil => rfl
  | _, _, .cons _ t => congrArg Nat.succ (DpAll.len t)
theorem DpAll.get {K : Fr} {H : Hp} : ∀ {vs : List V} {ds : List PyData} {i : Nat} {d : PyData}, DpAll K H vs ds → ds[i]? = some d → ∃ v, vs[i]? = some v ∧ Dp K H v d
  | _, _, _, _, .nil, e => by simp at e
  | _, _, 0, _, .cons h _, e => by
    simp at e
    subst e
    exact ⟨_, rfl, h⟩
  | _, _, i + 1, d, .cons _ t, e => by
    obtain ⟨v, h1, h2⟩ := DpAll.get (i := i) (d := d) t (by simpa using e)
    exact ⟨v, by simpa using h1, h2⟩
end L2
namespace KB
open PySem PySem.Spec PyProof.Rows L2
theorem depth_mem {ds : List PyData} {d : PyData} (h : d ∈ ds) : d.depth ≤ PyData.depthAll ds := by
  induction ds with
  | nil => cases h
  | cons x xs ih =>
    show d.depth ≤ max x.depth (PyData.depthAll xs)
    rcases List.mem_cons.mp h with rfl | h
    · exact Nat.le_max_left _ _
    · exact Nat.le_trans (ih h) (Nat.le_max_right _ _)
/-- all lists in it are short -/
inductive Short : PyData → Prop
  | non : Short .none
  | bl (b : Bool) : Short (.bool b)
  | int (i : Int) : Short (.int i)
  | str (x : Str) : Short (.str x)
  | lst {ds : List PyData} : ds.length ≤ 10000 → (∀ d ∈ ds, Short d) → Short (.list ds)
  | tup {ds : List PyData} : ds.length ≤ 10000 → (∀ d ∈ ds, Short d) → Short (.tuple ds)
/-- both denote the same data, of depth below n -/
structure EqD (K : Fr) (H : Hp) (v w : V) (n : Nat) : Prop where
  ex : ∃ d, Dp K H v d ∧ Dp K H w d ∧ d.depth < n ∧ Short d
def spEq (K : Fr) (n : Nat) : Sp := fun vs H Q _ => ∃ v w, vs = [v, w] ∧ EqD K H v w n ∧ ∀ H', Same H H' → Q (.bl true) H'
end KB
/-! ### rules with the written part named (for blocks of comprehensions) -/
namespace KB
open PySem PySem.Spec PyProof.Rows L2
section
variable {X : Cx} {K : Fr}
theorem ix_listK (h : X.K = K := by rfl) : IxR X (rIxL K) := by subst h; exact ix_list
theorem ix_tupK (h : X.K = K := by rfl) : IxR X (rIxT K) := by subst h; exact ix_tup
theorem ix_seqK (h : X.K = K := by rfl) : IxR X (rIx K) := by subst h; exact ix_seq
theorem pe_fldK {e : Expr} {f : Str} {pos : Pos} {ta : TE} (ha : PE X e ta) (hb : attributeBase e f X.env (eval e X.env) = eval e X.env) (h : X.K = K := by rfl) : PE X (.Attribute e f pos) (tFld K ta f) := by subst h; exact pe_fld ha hb
theorem call_isiKK (h : X.K = K := by rfl) : CallR X (.builtin "isinstance") (rIsi K) := by subst h; exact call_isi
def rLenS (K : Fr) : List V → Hp → VK → Prop := fun xs H Q => ∃ p ys, xs = [.ref p] ∧ (SqL K H p ys ∨ SqT K H p ys) ∧ Q (.int ys.length) H
theorem call_len_seqK (h : X.K = K := by rfl) : CallR X (.builtin "len") (rLenS K) := by subst h; exact call_len_seq
theorem op_eqDK (hu : X.A.units + 64 < cLine) (h : X.K = K := by rfl) : OpR X (compareOp .Eq) (rEqD K) := by subst h; exact op_eqD hu
theorem op_neDK (hu : X.A.units + 64 < cLine) (h : X.K = K := by rfl) : OpR X (compareOp .NotEq) (rNeD K) := by subst h; exact op_neD hu
theorem op_in_seqK (h : X.K = K := by rfl) : OpR X (compareOp .In) (rIn K false) := by subst h; exact op_in_seq
theorem op_notIn_seqK (h : X.K = K := by rfl) : OpR X (compareOp .NotIn) (rIn K true) := by subst h; exact op_notIn_seq
end
end KB
/-! ### data that never changes -/
namespace KB
open PySem PySem.Spec PyProof.Rows L2
mutual
inductive IDat (H : Hp) : V → PyData → Prop
  | non : IDat H .non .none
  | bl (b : Bool) : IDat H (.bl b) (.bool b)
  | int (i : Int) : IDat H (.int i) (.int i)
  | str (x : Str) : IDat H (.str x) (.str x)
  | tup {a : Addr} {xs : List V} {ds : List PyData} : H a = some (.tup xs) → IDats H xs ds → IDat H (.ref a) (.tuple ds)
inductive IDats (H : Hp) : List V → List PyData → Prop
  | nil : IDats H [] []
  | cons {v : V} {vs : List V} {d : PyData} {ds : List PyData} : IDat H v d → IDats H vs ds → IDats H (v :: vs) (d :: ds)
end
mutual
theorem IDat.tups {H H' : Hp} (s : ∀ t xs, H t = some (.tup xs) → H' t = some (.tup xs)) : ∀ {v : V} {d : PyData}, IDat H v d → IDat H' v d
  | _, _, .non => .non
  | _, _, .bl b => .bl b
  | _, _, .int i => .int i
  | _, _, .str x => .str x
  | _, _, .tup h a => .tup (s _ _ h) (IDats.tups s a)
theorem IDats.tups {H H' : Hp} (s : ∀ t xs, H t = some (.tup xs) → H' t = some (.tup xs)) : ∀ {vs : List V} {ds : List PyData}, IDats H vs ds → IDats H' vs ds
  | _, _, .nil => .nil
  | _, _, .cons h t => .cons (IDat.tups s h) (IDats.tups s t)
end
mutual
theorem IDat.dp {K : Fr} {H : Hp} : ∀ {v : V} {d : PyData}, IDat H v d → Dp K H v d
  | _, _, .non => .non
  | _, _, .bl b => .bl b
  | _, _, .int i => .int i
  | _, _, .str x => .str x
  | _, _, .tup h a => .tup (SqT.of h) (IDats.dp a)
theorem IDats.dp {K : Fr} {H : Hp} : ∀ {vs : List V} {ds : List PyData}, IDats H vs ds → DpAll K H vs ds
  | _, _, .nil => .nil
  | _, _, .cons h t => .cons (IDat.dp h) (IDats.dp t)
end
/-- a small content -/
structure Cont (H : Hp) (v : V) : Prop where
  ex : ∃ d, IDat H v d ∧ d.depth ≤ 3 ∧ Short d
theorem Cont.mv {H H' : Hp} {fp fp' : List Addr} {v : V} (c : Cont H v) (m : Mv fp fp' H H') : Cont H' v := by
  obtain ⟨d, h1, h2⟩ := c.ex
  exact ⟨d, h1.tups fun t xs => m.tup, h2⟩
theorem Cont.same {H H' : Hp} {v : V} (c : Cont H v) (m : Same H H') : Cont H' v := c.mv (Mv.ofSame m)
theorem Cont.int {H : Hp} (i : Int) : Cont H (.int i) := ⟨_, .int i, Nat.zero_le _, .int i⟩
theorem Cont.non {H : Hp} : Cont H .non := ⟨_, .non, Nat.zero_le _, .non⟩
/-- all contents of a disk are small -/
structure DCont (H : Hp) (D : DiskS) : Prop where
  c1 : ∀ v ∈ D.shown, Cont H v
  c2 : ∀ v ∈ D.synced, Cont H v
  c3 : ∀ e ∈ D.wait, Cont H e.2
theorem DCont.mv {H H' : Hp} {fp fp' : List Addr} {D : DiskS} (c : DCont H D) (m : Mv fp fp' H H') : DCont H' D := ⟨fun v h => (c.c1 v h).mv m, fun v h => (c.c2 v h).mv m, fun v h => (c.c3 v h).mv m⟩
theorem DCont.same {H H' : Hp} {D : DiskS} (c : DCont H D) (m : Same H H') : DCont H' D := c.mv (Mv.ofSame m)
theorem DCont.new {H : Hp} {n : Nat} {v : V} (c : Cont H v) : DCont H (DiskS.new n v) := ⟨fun x h => by rw [(List.mem_replicate.mp h).2]; exact c, fun x h => by rw [(List.mem_replicate.mp h).2]; exact c, fun _ h => nomatch h⟩
theorem DCont.read {H : Hp} {D : DiskS} (c : DCont H D) : DCont H D.read := ⟨c.c1, c.c2, c.c3⟩
theorem DCont.write {H : Hp} {D : DiskS} {n : Nat} {v : V} (c : DCont H D) (h : Cont H v) : DCont H (D.write n v) := ⟨set_all c.c1 h, c.c2, fun e he => by
  rcases List.mem_append.mp he with z | z
  · exact c.c3 e z
  · rw [List.mem_singleton.mp z]
    exact h⟩
theorem DCont.sync {H : Hp} {D : DiskS} (c : DCont H D) : DCont H D.sync := ⟨c.c1, c.c1, fun _ h => nomatch h⟩
theorem DCont.after {H : Hp} {D : DiskS} {ks : List Nat} (c : DCont H D) : ∀ v ∈ D.after ks, Cont H v := by
  have : ∀ (ks : List Nat) (l : List V), (∀ v ∈ l, Cont H v) → ∀ v ∈ ks.foldl (DiskS.put1 D.wait) l, Cont H v := by
    intro ks
    induction ks with
    | nil => exact fun l h => h
    | cons k ks ih =>
      intro l h
      rw [List.foldl_cons]
      refine ih _ ?_
      unfold DiskS.put1
      cases e : D.wait[k]? with
      | none => exact h
      | some x => exact set_all h (c.c3 x (List.mem_of_getElem? e))
  exact this ks _ c.c2
theorem DCont.fail {H : Hp} {D : DiskS} {ks : List Nat} (c : DCont H D) : DCont H (D.fail ks) := ⟨c.after, c.after, fun _ h => nomatch h⟩
/-- the data of contents -/
theorem conts_dp {K : Fr} {H : Hp} : ∀ {vs : List V}, (∀ v ∈ vs, Cont H v) → ∃ ds, DpAll K H vs ds ∧ ∀ d ∈ ds, d.depth ≤ 3 ∧ Short d
  | [], _ => ⟨[], .nil, fun _ h => nomatch h⟩
  | v :: vs, h => by
    obtain ⟨d, h1, h2⟩ := (h v List.mem_cons_self).ex
    obtain ⟨ds, h3, h4⟩ := conts_dp (K := K) (vs := vs) fun x hx => h x (List.mem_cons_of_mem _ hx)
    refine ⟨d :: ds, .cons h1.dp h3, fun x hx => ?_⟩
    rcases List.mem_cons.mp hx with rfl | z
    · exact h2
    · exact h4 x z
theorem waits_dp {K : Fr} {H : Hp} : ∀ {wait : List (Nat × V)}, (∀ e ∈ wait, Cont H e.2) → ∃ ds : List PyData, (∀ ws, Waits H ws wait → DpAll K H ws ds) ∧ ds.length = wait.length ∧ ∀ d ∈ ds, d.depth ≤ 4 ∧ Short d
  | [], _ => ⟨[], fun ws hw => by rw [List.eq_nil_of_length_eq_zero hw.len]; exact .nil, rfl, fun _ h => nomatch h⟩
  | (n, v) :: wait, h => by
    obtain ⟨d, h1, h2⟩ := (h (n, v) List.mem_cons_self).ex
    obtain ⟨ds, h3, hl, h4⟩ := waits_dp (K := K) (wait := wait) fun x hx => h x (List.mem_cons_of_mem _ hx)
    refine ⟨.tuple [.int (n : Int), d] :: ds, fun ws hw => ?_, by rw [List.length_cons, List.length_cons, hl], fun x hx => ?_⟩
    · cases ws with
      | nil => exact absurd hw.len (by simp)
      | cons w ws =>
        obtain ⟨t, e1, e2⟩ := hw.at_ 0 n v rfl
        have e1' : w = .ref t := Option.some.inj e1
        subst e1'
        refine .cons (.tup (SqT.of e2) (.cons (.int _) (.cons h1.dp .nil))) (h3 ws ⟨Nat.succ.inj hw.len, fun i m u e => ?_⟩)
        obtain ⟨t', f1, f2⟩ := hw.at_ (i + 1) m u (by simpa using e)
        exact ⟨t', by simpa using f1, f2⟩
    · rcases List.mem_cons.mp hx with rfl | z
      · refine ⟨?_, .tup (of_decide_eq_true rfl) fun y hy => ?_⟩
        · show max 0 (max d.depth 0) + 1 ≤ 4
          have := h2.1
          omega
        · simp only [List.mem_cons, List.not_mem_nil, or_false] at hy
          rcases hy with rfl | rfl
          · exact .int _
          · exact h2.2
      · exact h4 x z
theorem depthAll_le {ds : List PyData} {n : Nat} (h : ∀ d ∈ ds, d.depth ≤ n) : PyData.depthAll ds ≤ n := by
  induction ds with
  | nil => exact Nat.zero_le _
  | cons d ds ih =>
    show max d.depth (PyData.depthAll ds) ≤ n
    exact Nat.max_le.mpr ⟨h d List.mem_cons_self, ih fun x hx => h x (List.mem_cons_of_mem _ hx)⟩
/-- what a disk shows, and what the law's own one does -/
theorem eq_shown {K : Fr} {H : Hp} {D : DiskS} {m : Nat} {f t1 t2 l3 t4 e u1 u2 m3 u4 : Addr} {ws ws' : List V} (ok : D.Ok m) (hm : m ≤ 100) (hwl : D.wait.length ≤ 10000) (c : DCont H D)
    (hf : H f = some (.lst [.ref t1, .ref t2, .ref l3, .ref t4])) (h1 : H t1 = some (.tup D.shown)) (h2 : H t2 = some (.tup D.synced)) (h3 : H l3 = some (.lst ws)) (hw : Waits H ws D.wait) (h4 : H t4 = some (.tup D.tally))
    (he : H e = some (.lst [.ref u1, .ref u2, .ref m3, .ref u4])) (g1 : H u1 = some (.tup D.shown)) (g2 : H u2 = some (.tup D.synced)) (g3 : H m3 = some (.lst ws')) (hw' : Waits H ws' D.wait) (g4 : H u4 = some (.tup D.tally)) :
    EqD K H (.ref f) (.ref e) 8 := by
  obtain ⟨d1, p1, q1⟩ := conts_dp (K := K) c.c1
  obtain ⟨d2, p2, q2⟩ := conts_dp (K := K) c.c2
  obtain ⟨d3, p3, l3, q3⟩ := waits_dp (K := K) c.c3
  have l1 := p1.len
  have l2 := p2.len
  rw [ok.l1] at l1
  rw [ok.l2] at l2
  have pt : DpAll K H D.tally [.int D.r, .int D.w, .int D.s] := .cons (.int _) (.cons (.int _) (.cons (.int _) .nil))
  refine ⟨.list [.tuple d1, .tuple d2, .list d3, .tuple [.int D.r, .int D.w, .int D.s]], ?_, ?_, ?_, ?_⟩
  · exact .lst (SqL.of hf) (.cons (.tup (SqT.of h1) p1) (.cons (.tup (SqT.of h2) p2) (.cons (.lst (SqL.of h3) (p3 _ hw)) (.cons (.tup (SqT.of h4) pt) .nil))))
  · exact .lst (SqL.of he) (.cons (.tup (SqT.of g1) p1) (.cons (.tup (SqT.of g2) p2) (.cons (.lst (SqL.of g3) (p3 _ hw')) (.cons (.tup (SqT.of g4) pt) .nil))))
  · show max (PyData.depthAll d1 + 1) (max (PyData.depthAll d2 + 1) (max (PyData.depthAll d3 + 1) (max (0 + 1) 0))) + 1 < 8
    have a1 := depthAll_le (n := 3) fun d h => (q1 d h).1
    have a2 := depthAll_le (n := 3) fun d h => (q2 d h).1
    have a3 := depthAll_le (n := 4) fun d h => (q3 d h).1
    omega
  · refine .lst (of_decide_eq_true rfl) fun d hd => ?_
    simp only [List.mem_cons, List.not_mem_nil, or_false] at hd
    rcases hd with rfl | rfl | rfl | rfl
    · exact .tup (by omega) fun d h => (q1 d h).2
    · exact .tup (by omega) fun d h => (q2 d h).2
    · exact .lst (by omega) fun d h => (q3 d h).2
    · refine .tup (of_decide_eq_true rfl) fun d h => ?_
      simp only [List.mem_cons, List.not_mem_nil, or_false] at h
      rcases h with rfl | rfl | rfl <;> exact .int _
/-- the source, a disk and the law's own one, alike -/
structure DR (C : Addr) (H : Hp) (d p q : Addr) (fp fq : List Addr) (m : Nat) (D T : DiskS) : Prop where
  r : Rng H d
  dp : DiskAt C H p fp m D
  dq : RefAt H q fq m T
  j1 : Disj [d] fp
  j2 : Disj [d] fq
  j3 : Disj fp fq
section
variable {C : Addr} {H H' : Hp} {d p q : Addr} {fp fq fp' : List Addr} {m : Nat} {D T D' : DiskS}
theorem DR.draw (w : DR C H d p q fp fq m D T) (r : Rng H' d) (mv : Mv [d] [d] H H') : DR C H' d p q fp fq m D T := ⟨r, w.dp.mv mv w.j1, w.dq.mv mv w.j2, w.j1, w.j2, w.j3⟩
theorem DR.same (w : DR C H d p q fp fq m D T) (s : Same H H') : DR C H' d p q fp fq m D T := ⟨w.r.same s, w.dp.same s, w.dq.same s, w.j1, w.j2, w.j3⟩
theorem DR.left (w : DR C H d p q fp fq m D T) (hD : DiskAt C H' p fp' m D') (mv : Mv fp fp' H H') : DR C H' d p q fp' fq m D' T :=
  ⟨w.r.keep mv (nin_of w.j1), hD, w.dq.mv mv w.j3, (mv.disj w.j1.symm w.r.mus).symm, w.j2, mv.disj w.j3 w.dq.mu⟩
theorem DR.right (w : DR C H d p q fp fq m D T) (hD : RefAt H' q fp' m D') (mv : Mv fq fp' H H') : DR C H' d p q fp fp' m D D' :=
  ⟨w.r.keep mv (nin_of w.j2), w.dp.mv mv w.j3.symm, hD, w.j1, (mv.disj w.j2.symm w.r.mus).symm, (mv.disj w.j3.symm w.dp.mu).symm⟩
end
end KB
namespace KB
open PySem PySem.Spec PyProof.Rows L2
/-- a tuple of small flat things -/
theorem Cont.tup {H : Hp} {t : Addr} {vs : List V} (h : H t = some (.tup vs)) (hf : ∀ v ∈ vs, isFl v = true) (hl : vs.length ≤ 10000) : Cont H (.ref t) := by
  have : ∀ vs : List V, (∀ v ∈ vs, isFl v = true) → IDats H vs (vs.map pdF) := by
    intro vs
    induction vs with
    | nil => exact fun _ => .nil
    | cons v vs ih =>
      intro hf
      refine .cons ?_ (ih fun x hx => hf x (List.mem_cons_of_mem _ hx))
      have := hf v List.mem_cons_self
      cases v with
      | non => exact .non
      | bl b => exact .bl b
      | int i => exact .int i
      | _ => cases this
  refine ⟨_, .tup h (this vs hf), ?_, .tup (by rw [List.length_map]; exact hl) fun d hd => ?_⟩
  · show PyData.depthAll (vs.map pdF) + 1 ≤ 3
    have := depthAll_le (n := 0) fun d hd => (shp_flats hf d hd).dep
    omega
  · obtain ⟨v, hv, rfl⟩ := List.mem_map.mp hd
    have := hf v hv
    cases v with
    | non => exact .non
    | bl b => exact .bl b
    | int i => exact .int i
    | _ => cases this
theorem RefAt.tick {H : Hp} {q : Addr} {fq : List Addr} {m : Nat} {D : DiskS} {a b c t : Addr} {ws : List V} (w : RefAt H q fq m D) (hq : H q = some (.lst [.ref a, .ref b, .ref c, .ref t])) (e : fq = [q, a, b, c, t]) :
    RefAt (upd H t (.lst D.read.tally)) q fq m D.read ∧ Mv fq fq H (upd H t (.lst D.read.tally)) := by
  obtain ⟨ok, a', b', c', t', ws, h1, h2, h3, h4, h5, hw, rfl, ⟨qa, qb, qc, qt⟩, ⟨ab, ac, at'⟩, ⟨bc, bt⟩, ct⟩ := id w
  injection e with _ e
  injection e with e1 e
  injection e with e2 e
  injection e with e3 e
  injection e with e4 e
  subst e1 e2 e3 e4
  refine ⟨⟨ok.read, a', b', c', t', ws, ?_, ?_, ?_, ?_, upd_same, hw.tups fun z xs hz => ?_, rfl, ⟨qa, qb, qc, qt⟩, ⟨ab, ac, at'⟩, ⟨bc, bt⟩, ct⟩, fun x o e hx => ?_, w.mu, fun _ h => .inl h⟩
  · rw [upd_ne qt]; exact h1
  · rw [upd_ne at']; exact h2
  · rw [upd_ne bt]; exact h3
  · rw [upd_ne ct]; exact h4
  · rw [upd_ne (ne_tup_lst hz h5)]; exact hz
  · simp only [List.mem_cons, List.not_mem_nil, or_false, not_or] at hx
    rw [upd_ne hx.2.2.2.2]
    exact e
/-- one content, in two lists -/
theorem eq_one {K : Fr} {H : Hp} {f e : Addr} {v : V} (c : Cont H v) (h1 : H f = some (.lst [v])) (h2 : H e = some (.lst [v])) : EqD K H (.ref f) (.ref e) 8 := by
  obtain ⟨d, hd, hl, hs⟩ := c.ex
  refine ⟨.list [d], .lst (SqL.of h1) (.cons hd.dp .nil), .lst (SqL.of h2) (.cons hd.dp .nil), ?_, .lst (of_decide_eq_true rfl) fun x hx => ?_⟩
  · show max d.depth 0 + 1 < 8
    omega
  · rw [List.mem_singleton.mp hx]
    exact hs
end KB
namespace KB
open PySem PySem.Spec PyProof.Rows L2
/-- len(set(xs)), xs a list of tuples of ints -/
def tLenSetT (K : Fr) (ta : TE) : TE := fun σ H Q => ta σ H fun x H1 => ∃ (l : Addr) (ks : List (Addr × List Int)), x = V.ref l ∧ SqL K H1 l (ks.map fun p => V.ref p.1) ∧ (∀ p ∈ ks, SqT K H1 p.1 (p.2.map V.int)) ∧ ks.length < 64 ∧
  ∀ L : List (Addr × List Int), (L.map (·.2)).Nodup → (∀ p ∈ L, p ∈ ks) → (∀ p ∈ ks, p.2 ∈ L.map (·.2)) → Q (.int L.length) H1
theorem pe_lenSetT {X : Cx} {a : Expr} {ta : TE} {p p2 q pos : Pos} (hc : X.calm = true) (hu : X.A.units + 64 < cLine) (hg : Gl X "len") (hm : X.mg "len" = none) (hg2 : Gl X "set") (hm2 : X.mg "set" = none) (ha : PE X a ta)
    (na : starEach [a] X.env = (false, eval a X.env) :: starEach [] X.env := by rfl) : PE X (.Call (.Name "len" p) [.Call (.Name "set" p2) [a] [] q] [] pos) (tLenSetT X.K ta) := by
  refine ⟨fun pins s σ H Q I h => ?_⟩
  refine Call_ (ld_blt I hg hm PySem.boot_len ?_)
  refine PyProof.Rows.callWith_builtin1 (PyProof.Rows.args_cons ?_ rfl) rfl rfl
  refine Call_ (ld_blt I hg2 hm2 PyProof.Rows.boot_set ?_)
  refine PyProof.Rows.callWith_type1 (PyProof.Rows.args_cons (thn (ha.run pins s σ H _ I h) fun v s1 ⟨x, H1, I1, r1, q1⟩ => PyProof.Rows.args_nil ?_) na) na rfl
  obtain ⟨l, ks, rfl, hq, hk, hf, q1⟩ := q1
  cases r1
  obtain ⟨its, r, pl, hz⟩ := I1.list hq
  refine call_set_tups (P := X.prog) (w := X.w) ks (I1.ok.hd hc) pl.isList (by simpa using refs_of_vals r) (fun p hp => I1.isT (hk p hp)) hf (by omega) fun h' tk L es ep t R g k => ?_
  refine PyProof.Rows.args_nil ?_
  have I2 : Inv X pins σ H1 { s1 with heap := h', toks := tk } := I1.kept k
  obtain ⟨o, ho, hex, hd⟩ := R.ob
  have hsz : es.size = L.length := by
    have h := congrArg List.length R.rows
    unfold rowsOf at h
    rw [Array.length_toList, List.length_map] at h
    exact h
  have hfit : t.fits es.size = true := by
    unfold SetTable.fits SetTable.fill
    have e1 : t.place.size = es.size := by rw [R.tab.sz, List.length_map, hsz]
    have hr := R.room
    rw [R.tab.dm, e1, hsz]
    simp
    omega
  have hw := R.few
  refine call_len_set ho hex hd hfit (by rw [hsz]; omega) ⟨.int L.length, H1, I2.tok _, ⟨_, by rw [hsz]⟩, q1 L R.nd (fun p hp => List.mem_of_mem_take (g.sub p hp)) fun p hp => g.all p (by rw [List.take_length]; exact hp)⟩
theorem st_lenSetT {K : Fr} {ta : TE} {σ : L2.St} {H : Hp} {Q : VK} (h : ta σ H fun x H1 => ∃ (l : Addr) (ks : List (Addr × List Int)), x = V.ref l ∧ SqL K H1 l (ks.map fun p => V.ref p.1) ∧ (∀ p ∈ ks, SqT K H1 p.1 (p.2.map V.int)) ∧ ks.length < 64 ∧
  ∀ L : List (Addr × List Int), (L.map (·.2)).Nodup → (∀ p ∈ L, p ∈ ks) → (∀ p ∈ ks, p.2 ∈ L.map (·.2)) → Q (.int L.length) H1) : tLenSetT K ta σ H Q := h
end KB
namespace KB
open PySem PySem.Spec PyProof.Rows L2
def fset {α : Type} (f : Nat → α) (i : Nat) (x : α) : Nat → α := fun j => if j = i then x else f j
theorem fset_same {α : Type} {f : Nat → α} {i : Nat} {x : α} : fset f i x i = x := if_pos rfl
theorem fset_ne {α : Type} {f : Nat → α} {i j : Nat} {x : α} (h : j ≠ i) : fset f i x j = f j := if_neg h
/-- the source, a list and its disks -/
structure Many (C : Addr) (H : Hp) (d l n : Nat) (p : Nat → Addr) (fp : Nat → List Addr) (m : Nat) (D : Nat → DiskS) : Prop where
  r : Rng H d
  dp : ∀ i, i < n → DiskAt C H (p i) (fp i) m (D i)
  j1 : ∀ i, i < n → Disj [d] (fp i)
  j2 : ∀ i j, i < n → j < n → i ≠ j → Disj (fp i) (fp j)
  ls : H l = some (.lst ((List.range n).map fun i => .ref (p i)))
  ld : l ≠ d
  lf : ∀ i, i < n → l ∉ fp i
section
variable {C : Addr} {H H' : Hp} {d l n : Nat} {p : Nat → Addr} {fp : Nat → List Addr} {m : Nat} {D : Nat → DiskS}
theorem Many.draw (w : Many C H d l n p fp m D) (r : Rng H' d) (mv : Mv [d] [d] H H') : Many C H' d l n p fp m D :=
  ⟨r, fun i hi => (w.dp i hi).mv mv (w.j1 i hi), w.j1, w.j2, mv.keep _ _ w.ls (by simpa using w.ld), w.ld, w.lf⟩
theorem Many.same (w : Many C H d l n p fp m D) (s : Same H H') : Many C H' d l n p fp m D := ⟨w.r.same s, fun i hi => (w.dp i hi).same s, w.j1, w.j2, s _ _ w.ls, w.ld, w.lf⟩
theorem Many.put (w : Many C H d l n p fp m D) {i : Nat} {fp' : List Addr} {D' : DiskS} (hi : i < n) (hD : DiskAt C H' (p i) fp' m D') (mv : Mv (fp i) fp' H H') : Many C H' d l n p (fset fp i fp') m (fset D i D') where
  r := w.r.keep mv (nin_of (w.j1 i hi))
  dp := fun j hj => by
    by_cases e : j = i
    · subst e
      rw [fset_same, fset_same]
      exact hD
    · rw [fset_ne e, fset_ne e]
      exact (w.dp j hj).mv mv (w.j2 i j hi hj (Ne.symm e))
  j1 := fun j hj => by
    by_cases e : j = i
    · subst e
      rw [fset_same]
      exact (mv.disj (w.j1 j hj).symm w.r.mus).symm
    · rw [fset_ne e]
      exact w.j1 j hj
  j2 := fun a b ha hb hab => by
    by_cases e1 : a = i
    · subst e1
      rw [fset_same, fset_ne (Ne.symm hab)]
      exact mv.disj (w.j2 a b ha hb hab) (w.dp b hb).mu
    · rw [fset_ne e1]
      by_cases e2 : b = i
      · subst e2
        rw [fset_same]
        exact (mv.disj (w.j2 b a hb ha (Ne.symm hab)) (w.dp a ha).mu).symm
      · rw [fset_ne e2]
        exact w.j2 a b ha hb hab
  ls := mv.keep _ _ w.ls (w.lf i hi)
  ld := w.ld
  lf := fun j hj => by
    by_cases e : j = i
    · subst e
      rw [fset_same]
      intro z
      rcases mv.new _ z with h | h
      · exact w.lf j hj h
      · rw [w.ls] at h
        cases h
    · rw [fset_ne e]
      exact w.lf j hj
/-- one more, new -/
theorem Many.add (w : Many C H d l n p fp m D) {q : Addr} {fq : List Addr} {T : DiskS} (s : Same H H') (fn : ∀ a ∈ fq, H a = none) (hT : DiskAt C H' q fq m T) :
    Many C (upd H' l (.lst ((List.range n).map (fun i => .ref (p i)) ++ [.ref q]))) d l (n + 1) (fset p n q) (fset fp n fq) m (fset D n T) := by
  have ls' := s _ _ w.ls
  have lq : l ∉ fq := fun z => by
    have := fn l z
    rw [w.ls] at this
    cases this
  have mv : Mv [l] [l] H' (upd H' l (.lst ((List.range n).map (fun i => .ref (p i)) ++ [.ref q]))) := ⟨fun b o e hb => by rw [upd_ne (by simpa using hb)]; exact e, fun b hb => by rw [List.mem_singleton.mp hb]; exact ⟨_, ls', rfl⟩, fun b hb => .inl hb⟩
  have dl : ∀ {f : List Addr}, l ∉ f → Disj [l] f := fun h x h1 h2 => h (by rw [← List.mem_singleton.mp h1]; exact h2)
  refine ⟨(w.r.same s).keep mv (by simpa using Ne.symm w.ld), fun i hi => ?_, fun i hi => ?_, fun a b ha hb hab => ?_, ?_, w.ld, fun i hi => ?_⟩
  · by_cases e : i = n
    · subst e
      rw [fset_same, fset_same, fset_same]
      exact hT.mv mv (dl lq)
    · rw [fset_ne e, fset_ne e, fset_ne e]
      exact ((w.dp i (by omega)).same s).mv mv (dl (w.lf i (by omega)))
  · by_cases e : i = n
    · subst e
      rw [fset_same]
      exact (disj_new fn w.r.mus).symm
    · rw [fset_ne e]
      exact w.j1 i (by omega)
  · by_cases e1 : a = n
    · subst e1
      rw [fset_same, fset_ne (Ne.symm hab)]
      exact disj_new fn (w.dp b (by omega)).mu
    · rw [fset_ne e1]
      by_cases e2 : b = n
      · subst e2
        rw [fset_same]
        exact (disj_new fn (w.dp a (by omega)).mu).symm
      · rw [fset_ne e2]
        exact w.j2 a b (by omega) (by omega) hab
  · rw [upd_same, List.range_succ, List.map_append]
    have e : (List.range n).map (fun i => V.ref (fset p n q i)) = (List.range n).map (fun i => V.ref (p i)) := List.map_congr_left fun i hi => by
      rw [fset_ne (by have := List.mem_range.mp hi; omega)]
    rw [e]
    show _ = some (HO.lst (_ ++ [V.ref (fset p n q n)]))
    rw [fset_same]
  · by_cases e : i = n
    · subst e
      rw [fset_same]
      exact lq
    · rw [fset_ne e]
      exact w.lf i (by omega)
end
end KB

namespace KBL
open PySem PySem.Spec PyProof.Rows L2 KB
local macro_rules | `(tactic| walk_at "hp") => `(tactic| first | assumption | exact upd_same | (refine Eq.trans (upd_ne ?_) ?_; (walk_at "ne"); (walk_at "hp")))
local macro_rules | `(tactic| walk_at "ne") => `(tactic| first | assumption | (refine Ne.symm ?_; assumption) | exact ne_lst_ins (by assumption) (by assumption) | exact Ne.symm (ne_lst_ins (by assumption) (by assumption)) | exact ne_fresh (by assumption) (by walk_at "hp") | exact Ne.symm (ne_fresh (by assumption) (by walk_at "hp")))
local macro_rules | `(tactic| walk_at "at") => `(tactic| first | exact at0 | exact at1 | exact at2 | exact at3 | exact atI_of (by assumption))
local macro_rules | `(tactic| walk_at "ixn") => `(tactic| first | exact ix0 | exact ix1 | exact ix2 | exact ix3 | exact ixN_of (by assumption))
local macro_rules | `(tactic| walk_at "side") => `(tactic| first | assumption | exact ⟨by assumption, by assumption⟩ | (with_reducible show (0 : Int) < _; first | decide | omega) | exact ⟨by decide, by decide⟩ | exact ⟨by decide, by decide, by decide⟩ | exact Or.inr ⟨by decide, by decide⟩ | exact Or.inl ⟨by decide, by decide⟩ | exact ⟨by omega, by omega⟩)
local macro_rules | `(tactic| walk_at "lk") => `(tactic| first | rfl | decide)
local macro_rules | `(tactic| walk_at "lkn") => `(tactic| first | rfl | decide +kernel)
local macro_rules | `(tactic| walk_at "s") => `(tactic| first
  | ((with_reducible show tVar _ _ _ _); refine ⟨_, rfl, ?_⟩)
  | with_reducible refine st_c ?_
  | with_reducible refine st_cons ?_
  | with_reducible refine st_nil ?_
  | with_reducible refine st_op ?_
  | with_reducible refine st_rI0 ?_
  | with_reducible refine st_eqI ?_
  | with_reducible refine st_neI ?_
  | with_reducible refine st_eqS ?_
  | with_reducible refine st_neS ?_
  | with_reducible refine st_seq ?_
  | with_reducible refine st_next ?_
  | with_reducible refine st_asg ?_
  | with_reducible refine st_gname ?_
  | with_reducible refine st_drop ?_
  | with_reducible refine st_ret ?_
  | with_reducible refine st_retN ?_
  | with_reducible refine st_ifS ?_
  | with_reducible refine st_test ?_
  | with_reducible refine st_b ?_
  | with_reducible refine st_not ?_
  | with_reducible refine st_and ?_
  | with_reducible refine st_or ?_
  | with_reducible refine st_andV ?_
  | with_reducible refine st_orV ?_
  | with_reducible refine st_notV ?_
  | with_reducible refine st_call ?_
  | with_reducible refine st_meth ?_
  | with_reducible refine st_prop ?_
  | with_reducible refine st_make ?_
  | with_reducible refine st_makeK ?_
  | with_reducible refine st_fld ?_
  | with_reducible refine st_fldS ?_
  | with_reducible refine st_cb ?_
  | with_reducible refine st_bm ?_
  | with_reducible refine st_bm0 ?_
  | with_reducible refine st_tup ?_
  | with_reducible refine st_lst ?_
  | with_reducible refine st_gsub ?_
  | with_reducible refine st_gcons ?_
  | with_reducible refine st_gnil ?_
  | with_reducible refine st_augS ?_
  | with_reducible refine st_ipI ?_
  | with_reducible refine st_par ?_
  | with_reducible refine st_un ?_
  | with_reducible refine st_rU ?_
  | with_reducible refine st_chain ?_
  | with_reducible refine st_if ?_
  | with_reducible refine st_yes ?_
  | with_reducible refine st_for ?_
  | with_reducible refine st_lc ?_
  | ((with_reducible show rLenS _ _ _ _); unfold rLenS)
  | with_reducible refine st_tupRg ?_
  | with_reducible refine st_rg1 ?_
  | with_reducible refine st_iL ?_
  | with_reducible refine st_iT ?_
  | with_reducible refine st_iR1 ?_
  | with_reducible refine st_iR2 ?_
  | with_reducible refine st_iZA ?_
  | with_reducible refine st_sl ?_
  | with_reducible refine st_part ?_
  | with_reducible refine st_nopart ?_
  | ((with_reducible show (∃ i, V.int _ = V.int i ∧ _)); refine ⟨_, rfl, ?_⟩)
  | ((with_reducible show rI _ _ (V.int _) (V.int _) _ _); refine st_rI (by walk_at "side") ?_)
  | ((with_reducible show rIxL _ (V.ref _) (V.int _) _ _); refine st_ixL (by walk_at "hp") (by walk_at "at") ?_)
  | ((with_reducible show rSetL (V.ref _) (V.int _) _ _ _); refine st_setL (by walk_at "hp") (by walk_at "ixn") ?_)
  | ((with_reducible show (∃ k, V.bl _ = V.bl k ∧ _)); refine ⟨_, rfl, ?_⟩)
  | ((with_reducible show (∃ v w, [_, _] = [v, w] ∧ _)); refine ⟨_, _, rfl, ?_⟩)
  | ((with_reducible show (∃ p ys, [V.ref _] = [V.ref p] ∧ (SqL _ _ p ys ∨ SqT _ _ p ys) ∧ _)); refine ⟨_, _, rfl, Or.inl (SqL.of (by walk_at "hp")), ?_⟩)
  | ((with_reducible show (∃ p ys, [V.ref _] = [V.ref p] ∧ (SqL _ _ p ys ∨ SqT _ _ p ys) ∧ _)); refine ⟨_, _, rfl, Or.inr (SqT.of (by walk_at "hp")), ?_⟩)
  | ((with_reducible show (∃ p ys, [V.ref _] = [V.ref p] ∧ (SqL _ _ p ys ∨ SqT _ _ p ys) ∧ _)); refine ⟨_, _, rfl, by first | exact Or.inl (by assumption) | exact Or.inr (by assumption), ?_⟩)
  | ((with_reducible show ((∃ i, [V.int _] = [V.int i] ∧ _) ∨ _)); refine Or.inl ⟨_, rfl, ?_⟩)
  | ((with_reducible show (∃ i, [V.int _] = [V.int i] ∧ _)); refine ⟨_, rfl, ?_⟩)
  | ((with_reducible show (∃ a C dx fs v, V.ref _ = V.ref a ∧ _ ∧ Cls _ C ∧ _)); refine ⟨_, _, _, _, _, rfl, (by walk_at "hp"), (by walk_at "cls"), (by walk_at "noat"), (by walk_at "lk"), ?_⟩)
  | ((with_reducible show (∃ a C dx fs, V.ref _ = V.ref a ∧ _ ∧ Cls _ C ∧ _)); refine ⟨_, _, _, _, rfl, (by walk_at "hp"), (by walk_at "cls"), (by walk_at "noat"), (by exact of_decide_eq_true rfl), ?_⟩)
  | ((with_reducible show (∃ a dx fs, V.ref _ = V.ref a ∧ _ = some (HO.ins _ dx fs) ∧ List.lookup _ _ = none ∧ _)); refine ⟨_, _, _, rfl, (by walk_at "hp"), (by walk_at "lkn"), ?_⟩)
  | ((with_reducible show (∃ a dx fs, V.ref _ = V.ref a ∧ _ = some (HO.ins _ dx fs) ∧ _)); refine ⟨_, _, _, rfl, (by walk_at "hp"), ?_⟩)
  | ((with_reducible show (tyV _ "list" (V.ref _) _ ∧ _)); refine ⟨tyV_lst (by walk_at "hp"), ?_⟩)
  )
local macro_rules | `(tactic| walk_at "go") => `(tactic| repeat (walk_at "s"))
local macro_rules | `(tactic| walk_at "keep") => `(tactic| (intro b o e hn; simp only [List.mem_cons, List.not_mem_nil, or_false, not_or] at hn; walk_at "hp"))
local macro_rules | `(tactic| walk_at "new") => `(tactic| (intro b hb; simp only [List.mem_cons, List.not_mem_nil, or_false] at hb ⊢; walk_at "new1"))
local macro_rules | `(tactic| walk_at "new1") => `(tactic| first | (rcases hb with rfl | hb; focus (walk_at "new2"); walk_at "new1") | (subst hb; walk_at "new2"))
local macro_rules | `(tactic| walk_at "s") => `(tactic| with_reducible refine st_lenSetT ?_)
def top (i : Nat) : Stmt := PySem.Challenge.pw_keepbefore_k04_whole_disks_synced_at_any.main.body.getD i (.Pass ⟨0, 0, 0, 0⟩)
abbrev s__law_random : Stmt := top 14
abbrev s__law_below : Stmt := top 15
abbrev s_is_int : Stmt := top 7
abbrev s_is_int_in : Stmt := top 8
abbrev s_Disk___init__ : Stmt := inClass (top 12) 0
abbrev s_Disk_check : Stmt := inClass (top 12) 1
abbrev s_Disk_write : Stmt := inClass (top 12) 3
abbrev s_Disk_sync : Stmt := inClass (top 12) 4
abbrev s_Disk_lasting : Stmt := inClass (top 12) 9
abbrev s_Disk_contents : Stmt := inClass (top 12) 8
abbrev s_Disk_pending : Stmt := inClass (top 12) 10
abbrev s_are_ascending : Stmt := top 9
abbrev s_Disk_after_failure : Stmt := inClass (top 12) 5
abbrev s_Disk_fail : Stmt := inClass (top 12) 6
abbrev s_law : Stmt := top 16
def d__law_random : KB.DefE := ⟨(fun K => (He.ga K "_law_random")), "_law_random", "_law_random", defArgs s__law_random, defBody s__law_random, defScope s__law_random, [], []⟩
def d__law_below : KB.DefE := ⟨(fun K => (He.ga K "_law_below")), "_law_below", "_law_below", defArgs s__law_below, defBody s__law_below, defScope s__law_below, [], []⟩
def d_is_int : KB.DefE := ⟨(fun K => (He.ga K "is_int")), "is_int", "is_int", defArgs s_is_int, defBody s_is_int, defScope s_is_int, [], []⟩
def d_is_int_in : KB.DefE := ⟨(fun K => (He.ga K "is_int_in")), "is_int_in", "is_int_in", defArgs s_is_int_in, defBody s_is_int_in, defScope s_is_int_in, [], []⟩
def d_Disk___init__ : KB.DefE := ⟨(fun K => (He.ma K (He.ga K "Disk") "__init__")), "__init__", "Disk.__init__", defArgs s_Disk___init__, defBody s_Disk___init__, defScope s_Disk___init__, [], [("content", .int 0)]⟩
def d_Disk_check : KB.DefE := ⟨(fun K => (He.ma K (He.ga K "Disk") "check")), "check", "Disk.check", defArgs s_Disk_check, defBody s_Disk_check, defScope s_Disk_check, [], []⟩
def d_Disk_write : KB.DefE := ⟨(fun K => (He.ma K (He.ga K "Disk") "write")), "write", "Disk.write", defArgs s_Disk_write, defBody s_Disk_write, defScope s_Disk_write, [], []⟩
def d_Disk_sync : KB.DefE := ⟨(fun K => (He.ma K (He.ga K "Disk") "sync")), "sync", "Disk.sync", defArgs s_Disk_sync, defBody s_Disk_sync, defScope s_Disk_sync, [], []⟩
def d_Disk_lasting : KB.DefE := ⟨(fun K => (KB.getterAt "Disk" "lasting" K)), "lasting", "Disk.lasting", defArgs s_Disk_lasting, defBody s_Disk_lasting, defScope s_Disk_lasting, [], []⟩
def d_Disk_contents : KB.DefE := ⟨(fun K => (KB.getterAt "Disk" "contents" K)), "contents", "Disk.contents", defArgs s_Disk_contents, defBody s_Disk_contents, defScope s_Disk_contents, [], []⟩
def d_Disk_pending : KB.DefE := ⟨(fun K => (KB.getterAt "Disk" "pending" K)), "pending", "Disk.pending", defArgs s_Disk_pending, defBody s_Disk_pending, defScope s_Disk_pending, [], []⟩
def d_are_ascending : KB.DefE := ⟨(fun K => (He.ga K "are_ascending")), "are_ascending", "are_ascending", defArgs s_are_ascending, defBody s_are_ascending, defScope s_are_ascending, [], []⟩
def d_Disk_after_failure : KB.DefE := ⟨(fun K => (He.ma K (He.ga K "Disk") "after_failure")), "after_failure", "Disk.after_failure", defArgs s_Disk_after_failure, defBody s_Disk_after_failure, defScope s_Disk_after_failure, [], []⟩
def d_Disk_fail : KB.DefE := ⟨(fun K => (He.ma K (He.ga K "Disk") "fail")), "fail", "Disk.fail", defArgs s_Disk_fail, defBody s_Disk_fail, defScope s_Disk_fail, [], []⟩
def d_law : KB.DefE := ⟨(fun K => (He.ga K "law")), "law", "law", defArgs s_law, defBody s_law, defScope s_law, [], []⟩
def fn : List KB.DefE := [d__law_random, d__law_below, d_is_int, d_is_int_in, d_Disk___init__, d_Disk_check, d_Disk_write, d_Disk_sync, d_Disk_lasting, d_Disk_contents, d_Disk_pending, d_are_ascending, d_Disk_after_failure, d_Disk_fail, d_law]
def fa : List KB.Fc := [(fun K => (He.Fa.glo "law").ok K),
  (fun K => (He.Fa.cls "Disk").ok K),
  (fun K => (He.Fa.noat "Disk" "shown").ok K),
  (fun K => (He.Fa.noat "Disk" "synced").ok K),
  (fun K => (He.Fa.noat "Disk" "waiting").ok K),
  (fun K => (He.Fa.noat "Disk" "tally").ok K),
  (fun K => (He.Fa.glo "Disk").ok K),
  (fun K => (He.Fa.int "MAX_CELLS" 64).ok K),
  (fun K => (He.Fa.glo "_law_below").ok K),
  (fun K => (He.Fa.glo "_law_random").ok K),
  (fun K => (He.Fa.glo "are_ascending").ok K),
  (fun K => (He.Fa.glo "is_int").ok K),
  (fun K => (He.Fa.glo "is_int_in").ok K),
  (fun K => (He.Fa.meth "Disk" "after_failure").ok K),
  (fun K => (He.Fa.meth "Disk" "check").ok K),
  (fun K => (He.Fa.meth "Disk" "fail").ok K),
  (fun K => (He.Fa.meth "Disk" "sync").ok K),
  (fun K => (He.Fa.meth "Disk" "write").ok K),
  (fun K => (He.Fa.mkr "Disk").ok K),
  (fun K => (He.Fa.free "abs").ok K),
  (fun K => (He.Fa.free "all").ok K),
  (fun K => (He.Fa.free "bool").ok K),
  (fun K => (He.Fa.free "int").ok K),
  (fun K => (He.Fa.free "isinstance").ok K),
  (fun K => (He.Fa.free "len").ok K),
  (fun K => (He.Fa.free "list").ok K),
  (fun K => (He.Fa.free "range").ok K),
  (fun K => (He.Fa.free "set").ok K),
  (fun K => (He.Fa.free "tuple").ok K),
  (fun K => (He.Fa.free "zip").ok K),
  (KB.propB "Disk" "contents"),
  (KB.propB "Disk" "lasting"),
  (KB.propB "Disk" "pending")]
structure Md (K : Fr) (mg : Str → Option Value) : Prop where
  in_ : ∃ h : Heap, K.In h ∧ h.Ns mainGlobals mg
  says : KB.SaysX fa fn K
section
variable {K : Fr} {mg : Str → Option Value}
theorem Md.f__law_random (M : Md K mg) : ∃ fd, FunD K "_law_random" "_law_random" (defArgs s__law_random) (defBody s__law_random) (defScope s__law_random) (KB.DefE.dvs K d__law_random) (KB.DefE.kws K d__law_random) (He.ga K "_law_random") fd := M.says.def_ 0 (d := d__law_random) rfl
theorem Md.f__law_below (M : Md K mg) : ∃ fd, FunD K "_law_below" "_law_below" (defArgs s__law_below) (defBody s__law_below) (defScope s__law_below) (KB.DefE.dvs K d__law_below) (KB.DefE.kws K d__law_below) (He.ga K "_law_below") fd := M.says.def_ 1 (d := d__law_below) rfl
theorem Md.f_is_int (M : Md K mg) : ∃ fd, FunD K "is_int" "is_int" (defArgs s_is_int) (defBody s_is_int) (defScope s_is_int) (KB.DefE.dvs K d_is_int) (KB.DefE.kws K d_is_int) (He.ga K "is_int") fd := M.says.def_ 2 (d := d_is_int) rfl
theorem Md.f_is_int_in (M : Md K mg) : ∃ fd, FunD K "is_int_in" "is_int_in" (defArgs s_is_int_in) (defBody s_is_int_in) (defScope s_is_int_in) (KB.DefE.dvs K d_is_int_in) (KB.DefE.kws K d_is_int_in) (He.ga K "is_int_in") fd := M.says.def_ 3 (d := d_is_int_in) rfl
theorem Md.f_Disk___init__ (M : Md K mg) : ∃ fd, FunD K "__init__" "Disk.__init__" (defArgs s_Disk___init__) (defBody s_Disk___init__) (defScope s_Disk___init__) (KB.DefE.dvs K d_Disk___init__) (KB.DefE.kws K d_Disk___init__) (He.ma K (He.ga K "Disk") "__init__") fd := M.says.def_ 4 (d := d_Disk___init__) rfl
theorem Md.f_Disk_check (M : Md K mg) : ∃ fd, FunD K "check" "Disk.check" (defArgs s_Disk_check) (defBody s_Disk_check) (defScope s_Disk_check) (KB.DefE.dvs K d_Disk_check) (KB.DefE.kws K d_Disk_check) (He.ma K (He.ga K "Disk") "check") fd := M.says.def_ 5 (d := d_Disk_check) rfl
theorem Md.f_Disk_write (M : Md K mg) : ∃ fd, FunD K "write" "Disk.write" (defArgs s_Disk_write) (defBody s_Disk_write) (defScope s_Disk_write) (KB.DefE.dvs K d_Disk_write) (KB.DefE.kws K d_Disk_write) (He.ma K (He.ga K "Disk") "write") fd := M.says.def_ 6 (d := d_Disk_write) rfl
theorem Md.f_Disk_sync (M : Md K mg) : ∃ fd, FunD K "sync" "Disk.sync" (defArgs s_Disk_sync) (defBody s_Disk_sync) (defScope s_Disk_sync) (KB.DefE.dvs K d_Disk_sync) (KB.DefE.kws K d_Disk_sync) (He.ma K (He.ga K "Disk") "sync") fd := M.says.def_ 7 (d := d_Disk_sync) rfl
theorem Md.f_Disk_lasting (M : Md K mg) : ∃ fd, FunD K "lasting" "Disk.lasting" (defArgs s_Disk_lasting) (defBody s_Disk_lasting) (defScope s_Disk_lasting) (KB.DefE.dvs K d_Disk_lasting) (KB.DefE.kws K d_Disk_lasting) (KB.getterAt "Disk" "lasting" K) fd := M.says.def_ 8 (d := d_Disk_lasting) rfl
theorem Md.f_Disk_contents (M : Md K mg) : ∃ fd, FunD K "contents" "Disk.contents" (defArgs s_Disk_contents) (defBody s_Disk_contents) (defScope s_Disk_contents) (KB.DefE.dvs K d_Disk_contents) (KB.DefE.kws K d_Disk_contents) (KB.getterAt "Disk" "contents" K) fd := M.says.def_ 9 (d := d_Disk_contents) rfl
theorem Md.f_Disk_pending (M : Md K mg) : ∃ fd, FunD K "pending" "Disk.pending" (defArgs s_Disk_pending) (defBody s_Disk_pending) (defScope s_Disk_pending) (KB.DefE.dvs K d_Disk_pending) (KB.DefE.kws K d_Disk_pending) (KB.getterAt "Disk" "pending" K) fd := M.says.def_ 10 (d := d_Disk_pending) rfl
theorem Md.f_are_ascending (M : Md K mg) : ∃ fd, FunD K "are_ascending" "are_ascending" (defArgs s_are_ascending) (defBody s_are_ascending) (defScope s_are_ascending) (KB.DefE.dvs K d_are_ascending) (KB.DefE.kws K d_are_ascending) (He.ga K "are_ascending") fd := M.says.def_ 11 (d := d_are_ascending) rfl
theorem Md.f_Disk_after_failure (M : Md K mg) : ∃ fd, FunD K "after_failure" "Disk.after_failure" (defArgs s_Disk_after_failure) (defBody s_Disk_after_failure) (defScope s_Disk_after_failure) (KB.DefE.dvs K d_Disk_after_failure) (KB.DefE.kws K d_Disk_after_failure) (He.ma K (He.ga K "Disk") "after_failure") fd := M.says.def_ 12 (d := d_Disk_after_failure) rfl
theorem Md.f_Disk_fail (M : Md K mg) : ∃ fd, FunD K "fail" "Disk.fail" (defArgs s_Disk_fail) (defBody s_Disk_fail) (defScope s_Disk_fail) (KB.DefE.dvs K d_Disk_fail) (KB.DefE.kws K d_Disk_fail) (He.ma K (He.ga K "Disk") "fail") fd := M.says.def_ 13 (d := d_Disk_fail) rfl
theorem Md.f_law (M : Md K mg) : ∃ fd, FunD K "law" "law" (defArgs s_law) (defBody s_law) (defScope s_law) (KB.DefE.dvs K d_law) (KB.DefE.kws K d_law) (He.ga K "law") fd := M.says.def_ 14 (d := d_law) rfl
theorem Md.g_law (M : Md K mg) : mg "law" = some (.ref (He.ga K "law")) := by
  obtain ⟨h, X, G⟩ := M.in_
  exact He.glo_ok X G (M.says.fact 0 rfl)
theorem Md.cl_Disk (M : Md K mg) : Cls K (He.ga K "Disk") := He.cls_ok (M.says.fact 1 rfl)
theorem Md.na_Disk_shown (M : Md K mg) : NoAttr K (He.ga K "Disk") "shown" := He.noat_ok (M.says.fact 2 rfl)
theorem Md.na_Disk_synced (M : Md K mg) : NoAttr K (He.ga K "Disk") "synced" := He.noat_ok (M.says.fact 3 rfl)
theorem Md.na_Disk_waiting (M : Md K mg) : NoAttr K (He.ga K "Disk") "waiting" := He.noat_ok (M.says.fact 4 rfl)
theorem Md.na_Disk_tally (M : Md K mg) : NoAttr K (He.ga K "Disk") "tally" := He.noat_ok (M.says.fact 5 rfl)
theorem Md.g_Disk (M : Md K mg) : mg "Disk" = some (.ref (He.ga K "Disk")) := by
  obtain ⟨h, X, G⟩ := M.in_
  exact He.glo_ok X G (M.says.fact 6 rfl)
theorem Md.gt_MAX_CELLS (M : Md K mg) : ∃ t, mg "MAX_CELLS" = some (.int 64 t) := by
  obtain ⟨h, X, G⟩ := M.in_
  exact He.int_ok X G (M.says.fact 7 rfl)
noncomputable def Md.tk_MAX_CELLS (M : Md K mg) : Tok := (M.gt_MAX_CELLS).choose
theorem Md.g_MAX_CELLS (M : Md K mg) : mg "MAX_CELLS" = some (.int 64 M.tk_MAX_CELLS) := (M.gt_MAX_CELLS).choose_spec
theorem Md.g__law_below (M : Md K mg) : mg "_law_below" = some (.ref (He.ga K "_law_below")) := by
  obtain ⟨h, X, G⟩ := M.in_
  exact He.glo_ok X G (M.says.fact 8 rfl)
theorem Md.g__law_random (M : Md K mg) : mg "_law_random" = some (.ref (He.ga K "_law_random")) := by
  obtain ⟨h, X, G⟩ := M.in_
  exact He.glo_ok X G (M.says.fact 9 rfl)
theorem Md.g_are_ascending (M : Md K mg) : mg "are_ascending" = some (.ref (He.ga K "are_ascending")) := by
  obtain ⟨h, X, G⟩ := M.in_
  exact He.glo_ok X G (M.says.fact 10 rfl)
theorem Md.g_is_int (M : Md K mg) : mg "is_int" = some (.ref (He.ga K "is_int")) := by
  obtain ⟨h, X, G⟩ := M.in_
  exact He.glo_ok X G (M.says.fact 11 rfl)
theorem Md.g_is_int_in (M : Md K mg) : mg "is_int_in" = some (.ref (He.ga K "is_int_in")) := by
  obtain ⟨h, X, G⟩ := M.in_
  exact He.glo_ok X G (M.says.fact 12 rfl)
theorem Md.me_Disk_after_failure (M : Md K mg) : Meth K (He.ga K "Disk") "after_failure" (He.ma K (He.ga K "Disk") "after_failure") := He.meth_ok (M.says.fact 13 rfl)
theorem Md.me_Disk_check (M : Md K mg) : Meth K (He.ga K "Disk") "check" (He.ma K (He.ga K "Disk") "check") := He.meth_ok (M.says.fact 14 rfl)
theorem Md.me_Disk_fail (M : Md K mg) : Meth K (He.ga K "Disk") "fail" (He.ma K (He.ga K "Disk") "fail") := He.meth_ok (M.says.fact 15 rfl)
theorem Md.me_Disk_sync (M : Md K mg) : Meth K (He.ga K "Disk") "sync" (He.ma K (He.ga K "Disk") "sync") := He.meth_ok (M.says.fact 16 rfl)
theorem Md.me_Disk_write (M : Md K mg) : Meth K (He.ga K "Disk") "write" (He.ma K (He.ga K "Disk") "write") := He.meth_ok (M.says.fact 17 rfl)
theorem Md.mk_Disk (M : Md K mg) : Mk K (He.ga K "Disk") (He.ma K (He.ga K "Disk") "__init__") := He.mkr_ok (M.says.fact 18 rfl)
theorem Md.n_abs (M : Md K mg) : mg "abs" = none := by
  obtain ⟨h, X, G⟩ := M.in_
  exact He.free_ok X G (M.says.fact 19 rfl)
theorem Md.n_all (M : Md K mg) : mg "all" = none := by
  obtain ⟨h, X, G⟩ := M.in_
  exact He.free_ok X G (M.says.fact 20 rfl)
theorem Md.n_bool (M : Md K mg) : mg "bool" = none := by
  obtain ⟨h, X, G⟩ := M.in_
  exact He.free_ok X G (M.says.fact 21 rfl)
theorem Md.n_int (M : Md K mg) : mg "int" = none := by
  obtain ⟨h, X, G⟩ := M.in_
  exact He.free_ok X G (M.says.fact 22 rfl)
theorem Md.n_isinstance (M : Md K mg) : mg "isinstance" = none := by
  obtain ⟨h, X, G⟩ := M.in_
  exact He.free_ok X G (M.says.fact 23 rfl)
theorem Md.n_len (M : Md K mg) : mg "len" = none := by
  obtain ⟨h, X, G⟩ := M.in_
  exact He.free_ok X G (M.says.fact 24 rfl)
theorem Md.n_list (M : Md K mg) : mg "list" = none := by
  obtain ⟨h, X, G⟩ := M.in_
  exact He.free_ok X G (M.says.fact 25 rfl)
theorem Md.n_range (M : Md K mg) : mg "range" = none := by
  obtain ⟨h, X, G⟩ := M.in_
  exact He.free_ok X G (M.says.fact 26 rfl)
theorem Md.n_set (M : Md K mg) : mg "set" = none := by
  obtain ⟨h, X, G⟩ := M.in_
  exact He.free_ok X G (M.says.fact 27 rfl)
theorem Md.n_tuple (M : Md K mg) : mg "tuple" = none := by
  obtain ⟨h, X, G⟩ := M.in_
  exact He.free_ok X G (M.says.fact 28 rfl)
theorem Md.n_zip (M : Md K mg) : mg "zip" = none := by
  obtain ⟨h, X, G⟩ := M.in_
  exact He.free_ok X G (M.says.fact 29 rfl)
theorem Md.pr_Disk_contents (M : Md K mg) : PropOf K (He.ga K "Disk") "contents" (KB.prAt "Disk" "contents" K) (KB.getterAt "Disk" "contents" K) := KB.propB_ok (M.says.fact 30 rfl)
theorem Md.pr_Disk_lasting (M : Md K mg) : PropOf K (He.ga K "Disk") "lasting" (KB.prAt "Disk" "lasting" K) (KB.getterAt "Disk" "lasting" K) := KB.propB_ok (M.says.fact 31 rfl)
theorem Md.pr_Disk_pending (M : Md K mg) : PropOf K (He.ga K "Disk") "pending" (KB.prAt "Disk" "pending" K) (KB.getterAt "Disk" "pending" K) := KB.propB_ok (M.says.fact 32 rfl)
end
local macro_rules | `(tactic| walk_at "cls") => `(tactic| first | with_reducible exact Md.cl_Disk (by assumption))
local macro_rules | `(tactic| walk_at "noat") => `(tactic| first | with_reducible exact Md.na_Disk_shown (by assumption) | with_reducible exact Md.na_Disk_synced (by assumption) | with_reducible exact Md.na_Disk_waiting (by assumption) | with_reducible exact Md.na_Disk_tally (by assumption))
def sp__law_random (K : Fr) : Sp := fun vs H Q _ => ∃ (a : Addr) (salt : Int) (ns : List Int), vs = [.ref a, .int salt] ∧ SqL K H a (ns.map V.int) ∧ ns.length ≤ 63 ∧
  ∀ (p : Addr) (H' : Hp), H p = none → Same H H' → Rng H' p → Q (.ref p) H'
abbrev N__law_random : List Str := ["_law_script", "_law_salt", "_law_seed", "_law_cell"]
abbrev P__law_random : List Str := ["_law_script", "_law_salt"]
theorem sc__law_random : FnScope N__law_random P__law_random (defScope s__law_random) := ⟨rfl, rfl, rfl, by decide +kernel, rfl, by decide +kernel, by decide +kernel⟩
theorem ok__law_random {P : Program} {w : World} {K : Fr} {mg : Str → Option Value} {base : Heap} (M : Md K mg) : Okf P w K mg base CX0 1 (He.ga K "_law_random") P__law_random (sp__law_random K) := by
  obtain ⟨fd, F⟩ := M.f__law_random
  have nd := sc__law_random.nd
  refine ⟨fd, F.ok sc__law_random (fun vs H Q E h => ?_) (fun cdv A outer s H vs Q E hr h => ?_), F.kp, F.bindsN (fun _ _ _ _ _ _ us hl => match us, hl with | [_, _], _ => rfl)⟩
  · obtain ⟨a, salt, ns, rfl, _⟩ := h
    rfl
  · obtain ⟨a, salt, ns, rfl, hS, hl, k⟩ := h
    skip
    refine ⟨_, PSs.nox (pss_cons (ps_set (i := 2) nd rfl (Or.inl rfl) (pv 1))
      (pss_cons (ps_for PassesOwn.never rfl (pi_list (pv 0)) (pg_name (i := 3) nd rfl (Or.inl rfl))
      (pss_one (ps_set (i := 2) nd rfl (Or.inl rfl) (pe_op op_mod (pe_callTy call_int1 (by rfl) M.n_int (by decide +kernel) (pa_cons (pe_op op_add (pe_op op_mul (pv 2) pe_int) (pe_callB call_abs (by rfl) M.n_abs (by decide +kernel) (pa_cons (pv 3) pa_nil))) pa_nil)) pe_int))))
      (pss_one (ps_ret (pe_op op_cat (pe_lst (pa_cons (pv 2) (pa_cons pe_int pa_nil))) (pe_lc (own := [("_law_cell", 3)]) (g := gName 3) rfl nd (pi_list (pv 0)) (blkOk_by (own := [("_law_cell", 3)]) (N := N__law_random) (sc := defScope s__law_random) (by decide +kernel)) (fun _ _ _ _ _ => (pg_name (i := 3) nd rfl (Or.inl rfl))) (fun _ _ _ _ _ => pts_one (pt_cmpR op_ge (pv 3) (pe_op op_pow pe_int pe_int) (nomark _))) (fun _ _ _ _ _ => (pv 3)))))))), ?_⟩
    walk_at "go"
    refine ⟨_, rfl, ⟨_, hS⟩, for_list (K := K) (a := a) (xs := ns.map V.int) (fun i σ H' => ∃ (z : Int) (v : Option V), σ = [some (.ref a), some (.int salt), some (.int z), v] ∧ H' = H) ⟨salt, none, rfl, rfl⟩ (fun i σ H' _ ⟨_, _, _, e⟩ => by rw [e]; exact hS) ?_ ?_⟩
    · rintro i y σ H' hi ⟨z, v, rfl, rfl⟩
      obtain ⟨x, _, rfl⟩ := getm hi
      walk_at "go"
      exact ⟨_, _, rfl, rfl⟩
    · rintro σ H' ⟨z, v, rfl, rfl⟩
      walk_at "go"
      refine ⟨(by show 2 ≤ sizeLine; decide), fun p (hp : Fresh _ p) => ?_⟩
      walk_at "go"
      refine ⟨_, rfl, ⟨_, Same.seq (same_upd hp) hS⟩, fun D (hD : Fresh _ D) => lc_list (K := K) (a := a) (xs := ns.map V.int) (fun i H2 => Same H' H2 ∧ H2 p = some (.lst [.int z, .int 0]) ∧ ∃ bs : List Int, bs.length ≤ i ∧ H2 D = some (.lst (bs.map V.int))) ⟨(same_upd hp).trans (same_upd hD), (by walk_at "hp"), [], Nat.le_refl _, upd_same⟩ (fun i H2 _ h => Same.seq h.1 hS) ?_ ?_⟩
      · rintro i y H2 hi ⟨s2, hp2, bs, hb, hD2⟩
        obtain ⟨x, hx, rfl⟩ := getm hi
        have hi' : i < ns.length := (List.getElem?_eq_some_iff.mp hx).1
        walk_at "go"
        refine ⟨rfl, ?_⟩
        walk_at "go"
        refine if2 (fun e => ?_) (fun e => ?_)
        · walk_at "go"
          refine ⟨_, hD2, small (by rw [List.length_map]; omega), same_mut s2 ((same_upd hp).free hD), ?_, bs ++ [x], by rw [List.length_append]; exact Nat.succ_le_succ hb, ?_⟩
          · walk_at "hp"
          · rw [upd_same, List.map_append]
            rfl
        · exact ⟨s2, hp2, bs, Nat.le_succ_of_le hb, hD2⟩
      · rintro H2 ⟨s2, hp2, bs, hb, hD2⟩
        rw [List.length_map] at hb
        refine st_cat hp2 hD2 (smallE (by rw [List.length_map]; show 2 + bs.length ≤ _; omega)) fun q hq => ?_
        exact k q _ (s2.free hq) (s2.trans (same_upd hq)) ⟨_, upd_same, z, 0, bs, rfl⟩

def sp__law_below (K : Fr) : Sp := fun vs H Q _ => ∃ (a : Addr) (L : Int), vs = [.ref a, .int L] ∧ 0 < L ∧ L < 1073741824 ∧ Rng H a ∧
  ∀ (r : Nat) (H' : Hp), (r : Int) < L → Rng H' a → Mv [a] [a] H H' → Q (.int (r : Int)) H'
abbrev N__law_below : List Str := ["_law_d", "_law_limit", "_law_result"]
abbrev P__law_below : List Str := ["_law_d", "_law_limit"]
theorem sc__law_below : FnScope N__law_below P__law_below (defScope s__law_below) := ⟨rfl, rfl, rfl, by decide +kernel, rfl, by decide +kernel, by decide +kernel⟩
theorem ok__law_below {P : Program} {w : World} {K : Fr} {mg : Str → Option Value} {base : Heap} (M : Md K mg) : Okf P w K mg base CX0 1 (He.ga K "_law_below") P__law_below (sp__law_below K) := by
  obtain ⟨fd, F⟩ := M.f__law_below
  have nd := sc__law_below.nd
  refine ⟨fd, F.ok sc__law_below (fun vs H Q E h => ?_) (fun cdv A outer s H vs Q E hr h => ?_), F.kp, F.bindsN (fun _ _ _ _ _ _ us hl => match us, hl with | [_, _], _ => rfl)⟩
  · obtain ⟨a, L, rfl, _⟩ := h
    rfl
  · obtain ⟨a, L, rfl, h0, h1, hR, k0⟩ := h
    have k : ∀ (r : Int) (xs : List V), 0 ≤ r → r < L → RngL xs → Q (.int r) (upd H a (.lst xs)) := fun r xs r0 r1 hx => by
      obtain ⟨n, rfl⟩ := Int.eq_ofNat_of_zero_le r0
      exact k0 n _ r1 ⟨xs, upd_same, hx⟩ hR.mv
    obtain ⟨_, ha, ⟨z, c, bs, rfl⟩⟩ := hR
    skip
    refine ⟨_, PSs.nox (Evl.pss_cut (ps_if (PW.pt (pw_and (pt_cmpR op_eq (pe_ix ix_list (pv 0) pe_int (fun _ _ => rfl)) pe_int (nomark _)) (pw_and1 (pt_cmpR op_gt (pe_callB call_len_seq (by rfl) M.n_len (by decide +kernel) (pa_cons (pv 0) pa_nil)) pe_int (nomark _)))))
      (pss_one (ps_asg (pe_bm PySem.F.plainAttrs_list PySem.F.slot_list_pop PySem.F.type_list_pop mt_popAt (pv 0) (pa_cons pe_int pa_nil)) (pg_sub (pv 0) pe_int set_list)))
      pss_nil)
      (pss_cons (ps_if (pt_cmpR op_gt (pe_ix ix_list (pv 0) pe_int (fun _ _ => rfl)) pe_int (nomark _))
      (pss_cons (ps_set (i := 2) nd rfl (Or.inl rfl) (pe_op op_mod (pe_callTy call_int1 (by rfl) M.n_int (by decide +kernel) (pa_cons (pe_ix ix_list (pv 0) pe_int (fun _ _ => rfl)) pa_nil)) (pv 1)))
      (pss_cons (ps_asg (pe_op op_fdiv (pe_ix ix_list (pv 0) pe_int (fun _ _ => rfl)) (pv 1)) (pg_sub (pv 0) pe_int set_list))
      (pss_one (ps_ret (pv 2)))))
      pss_nil)
      (pss_cons (ps_asg (pe_op op_mod (pe_callTy call_int1 (by rfl) M.n_int (by decide +kernel) (pa_cons (pe_op op_add (pe_op op_mul (pe_ix ix_list (pv 0) pe_int (fun _ _ => rfl)) pe_int) pe_int) pa_nil)) pe_int) (pg_sub (pv 0) pe_int set_list))
      (pss_one (ps_ret (pe_op op_mod (pe_callTy call_int1 (by rfl) M.n_int (by decide +kernel) (pa_cons (pe_op op_fdiv (pe_ix ix_list (pv 0) pe_int (fun _ _ => rfl)) pe_int) pa_nil)) (pv 1))))))), ?_⟩
    refine st_cut (fun σ' H' => σ' = [some (.ref a), some (.int L), none] ∧ ∃ (z c : Int) (bs : List Int), H' a = some (.lst (.int z :: .int c :: bs.map V.int)) ∧ ∀ o, upd H' a o = upd H a o) ?_ ?_
    · walk_at "go"
      have fin : (∃ (z c : Int) (bs : List Int), H a = some (.lst (.int z :: .int c :: bs.map V.int)) ∧ ∀ o, upd H a o = upd H a o) := ⟨z, c, bs, ha, fun _ => rfl⟩
      refine if2 (fun e => ?_) (fun e => ?_)
      · walk_at "go"
        refine if2 (fun e => ?_) (fun e => ?_)
        · cases bs with
          | nil =>
            have e2 := of_decide_eq_true e
            exact absurd e2 (by simp)
          | cons b bs =>
            walk_at "go"
            refine st_popAt ha (by decide) (by decide) (k := 2) (by rw [seqIndex_of (by decide) (by simp; omega)]; rfl) rfl ?_
            walk_at "go"
            exact ⟨rfl, z, b, bs, upd_same, fun o => by rw [upd_upd, upd_upd]⟩
        · walk_at "go"
          exact ⟨rfl, fin⟩
      · refine ifF rfl ?_
        exact ⟨rfl, fin⟩
    · rintro σ' H' ⟨rfl, z, c, bs, ha', eu⟩
      walk_at "go"
      refine if2 (fun e => ?_) (fun e => ?_)
      · walk_at "go"
        rw [eu]
        exact k _ _ (Int.emod_nonneg _ (by omega)) (Int.emod_lt_of_pos _ h0) ⟨z, c / L, bs, rfl⟩
      · walk_at "go"
        rw [eu]
        exact k _ _ (Int.emod_nonneg _ (by omega)) (Int.emod_lt_of_pos _ h0) ⟨_, c, bs, rfl⟩

def sp_is_int (K : Fr) : Sp := fun vs H Q _ => ∃ (v : V) (n : String), vs = [v] ∧ TyX K H v (.type n) ∧ n ∈ tyNames ∧ Q (.bl (isIntV v)) H
abbrev N_is_int : List Str := ["value"]
abbrev P_is_int : List Str := ["value"]
theorem sc_is_int : FnScope N_is_int P_is_int (defScope s_is_int) := ⟨rfl, rfl, rfl, by decide +kernel, rfl, by decide +kernel, by decide +kernel⟩
theorem ok_is_int {P : Program} {w : World} {K : Fr} {mg : Str → Option Value} {base : Heap} (M : Md K mg) : Okf P w K mg base CX0 1 (He.ga K "is_int") P_is_int (sp_is_int K) := by
  obtain ⟨fd, F⟩ := M.f_is_int
  have nd := sc_is_int.nd
  refine ⟨fd, F.ok sc_is_int (fun vs H Q E h => ?_) (fun cdv A outer s H vs Q E hr h => ?_), F.kp, F.bindsN (fun _ _ _ _ _ _ us hl => match us, hl with | [_], _ => rfl)⟩
  · obtain ⟨v, n, rfl, _⟩ := h
    rfl
  · obtain ⟨v, n, rfl, ht, hn, k⟩ := h
    skip
    refine ⟨_, PSs.nox (pss_one (ps_ret (pe_and (pe_callB call_isi (by rfl) M.n_isinstance (by decide +kernel) (pa_cons (pv 0) (pa_cons (pe_bltn (v := .ty "int") (by rfl) M.n_int (by decide +kernel) rfl) pa_nil))) (pe_one (pe_not (pe_callB call_isi (by rfl) M.n_isinstance (by decide +kernel) (pa_cons (pv 0) (pa_cons (pe_bltn (v := .ty "bool") (by rfl) M.n_bool (by decide +kernel) rfl) pa_nil)))))))), ?_⟩
    walk_at "go"
    have e1 : kitB n "int" = some (decide (n = "int" ∨ n = "bool")) := by
      revert hn
      simp only [tyNames, List.mem_cons, List.not_mem_nil, or_false]
      rintro (rfl | rfl | rfl | rfl | rfl | rfl | rfl) <;> decide +kernel
    have e2 : kitB n "bool" = some (decide (n = "bool")) := by
      revert hn
      simp only [tyNames, List.mem_cons, List.not_mem_nil, or_false]
      rintro (rfl | rfl | rfl | rfl | rfl | rfl | rfl) <;> decide +kernel
    refine ⟨_, _, _, _, _, rfl, .ty "int", ht, kit_ty e1, ?_⟩
    refine ⟨_, rfl, ?_⟩
    have e3 : isIntV v = (decide (n = "int" ∨ n = "bool") && !decide (n = "bool")) := by
      cases ht with
      | base b => cases b <;> rfl
      | _ => rfl
    rw [e3] at k
    refine if2 (fun e => ?_) (fun e => ?_)
    · rw [e] at k
      walk_at "go"
      refine ⟨_, _, _, _, _, rfl, .ty "bool", ht, kit_ty e2, ?_⟩
      refine ⟨_, rfl, ?_⟩
      exact k
    · rw [e] at k
      exact k

def sp_is_int_in (K : Fr) : Sp := fun vs H Q _ => ∃ (v : V) (n : String) (lo hi : Int), vs = [v, .int lo, .int hi] ∧ TyX K H v (.type n) ∧ n ∈ tyNames ∧ Q (.bl (inV' lo hi v)) H
abbrev N_is_int_in : List Str := ["value", "low", "high"]
abbrev P_is_int_in : List Str := ["value", "low", "high"]
theorem sc_is_int_in : FnScope N_is_int_in P_is_int_in (defScope s_is_int_in) := ⟨rfl, rfl, rfl, by decide +kernel, rfl, by decide +kernel, by decide +kernel⟩
theorem ok_is_int_in {P : Program} {w : World} {K : Fr} {mg : Str → Option Value} {base : Heap} (M : Md K mg) : Okf P w K mg base CX0 2 (He.ga K "is_int_in") P_is_int_in (sp_is_int_in K) := by
  obtain ⟨fd, F⟩ := M.f_is_int_in
  have nd := sc_is_int_in.nd
  refine ⟨fd, F.ok sc_is_int_in (fun vs H Q E h => ?_) (fun cdv A outer s H vs Q E hr h => ?_), F.kp, F.bindsN (fun _ _ _ _ _ _ us hl => match us, hl with | [_, _, _], _ => rfl)⟩
  · obtain ⟨v, n, lo, hi, rfl, _⟩ := h
    rfl
  · obtain ⟨v, n, lo, hi, rfl, ht, hn, k⟩ := h
    obtain ⟨fd_is_int, G_is_int, k_is_int, b_is_int⟩ := ok_is_int (P := P) (w := w) (base := base) M
    have r_is_int : Room 1 _ := hr.mono (by decide)
    refine ⟨_, PSs.nox (pss_one (ps_ret (pe_and (pe_call G_is_int r_is_int (by rfl) M.g_is_int k_is_int b_is_int .nil pass0 (pa_cons (pv 0) pa_nil)) (pe_one (pe_chain op_le op_le (pv 1) (pv 0) (pv 2)))))), ?_⟩
    walk_at "go"
    refine ⟨v, n, rfl, ht, hn, ?_⟩
    refine ⟨_, rfl, ?_⟩
    cases v with
    | int i =>
      refine ifT rfl ?_
      walk_at "go"
      refine if2 (fun e => ?_) (fun e => ?_)
      · walk_at "go"
        have k2 : Q (.bl (decide (lo ≤ i) && decide (i ≤ hi))) H := k
        rw [e] at k2
        exact k2
      · have k2 : Q (.bl (decide (lo ≤ i) && decide (i ≤ hi))) H := k
        rw [e] at k2
        exact k2
    | _ => exact ifF rfl k

def sp_Disk___init__ (K : Fr) : Sp := fun vs H Q _ => ∃ (p dx : Addr) (m : Nat) (v : V), vs = [.ref p, .int (m : Int), v] ∧ H p = some (.ins (He.ga K "Disk") dx []) ∧ 1 ≤ m ∧ m ≤ 64 ∧
  ∀ H' fp, DiskAt (He.ga K "Disk") H' p fp m (DiskS.new m v) → (∀ b o, H b = some o → b ≠ p → H' b = some o) → (∀ a ∈ fp, a = p ∨ H a = none) → Q .non H'
abbrev N_Disk___init__ : List Str := ["self", "cells", "content"]
abbrev P_Disk___init__ : List Str := ["self", "cells", "content"]
theorem sc_Disk___init__ : FnScope N_Disk___init__ P_Disk___init__ (defScope s_Disk___init__) := ⟨rfl, rfl, rfl, by decide +kernel, rfl, by decide +kernel, by decide +kernel⟩
theorem ok_Disk___init__ {P : Program} {w : World} {K : Fr} {mg : Str → Option Value} {base : Heap} (M : Md K mg) : OkfK P w K mg base CX0 3 (He.ma K (He.ga K "Disk") "__init__") P_Disk___init__ (sp_Disk___init__ K) 2 "content" (.int 0) := by
  obtain ⟨fd, F⟩ := M.f_Disk___init__
  have nd := sc_Disk___init__.nd
  refine ⟨fd, F.ok sc_Disk___init__ (fun vs H Q E h => ?_) (fun cdv A outer s H vs Q E hr h => ?_), F.kp, ?_, ?_⟩
  · obtain ⟨p, dx, m, v, rfl, _⟩ := h
    rfl
  · obtain ⟨p, dx, m, v, rfl, h1, m1, m2, k⟩ := h
    obtain ⟨fd_is_int_in, G_is_int_in, k_is_int_in, b_is_int_in⟩ := ok_is_int_in (P := P) (w := w) (base := base) M
    have r_is_int_in : Room 2 _ := hr.mono (by decide)
    refine ⟨_, PSs.nox (pss_cons (ps_if (pt_not (pt_val (pe_call G_is_int_in r_is_int_in (by rfl) M.g_is_int_in k_is_int_in b_is_int_in .nil pass0 (pa_cons (pv 1) (pa_cons pe_int (pa_cons (pe_glob (v := .int 64) (by rfl) M.g_MAX_CELLS ⟨_, rfl⟩) pa_nil))))))
      (pss_one ps_never)
      pss_nil)
      (pss_cons (ps_fld (pv 0) (pe_op op_rep (pe_lst (pa_cons (pv 2) pa_nil)) (pv 1)) rfl)
      (pss_cons (ps_fld (pv 0) (pe_op op_rep (pe_lst (pa_cons (pv 2) pa_nil)) (pv 1)) rfl)
      (pss_cons (ps_fld (pv 0) (pe_lst pa_nil) rfl)
      (pss_one (ps_fld (pv 0) (pe_lst (pa_cons pe_int (pa_cons pe_int (pa_cons pe_int pa_nil)))) rfl)))))), ?_⟩
    try dsimp only [cxK]
    walk_at "go"
    refine ⟨_, "int", _, _, rfl, .base (.int _), by decide, ?_⟩
    walk_at "go"
    have e : inV' 1 64 (.int (m : Int)) = true := by
      show (decide ((1 : Int) ≤ (m : Int)) && decide ((m : Int) ≤ 64)) = true
      rw [decide_eq_true (by omega), decide_eq_true (by omega)]
      rfl
    refine ifF (by rw [e]; rfl) ?_
    walk_at "go"
    refine ⟨(by show 1 ≤ sizeLine; decide), fun x0 (hx0 : Fresh _ x0) => ?_⟩
    walk_at "go"
    refine st_rep upd_same (by omega) (by omega) (smallE (by show 1 * (m : Int).toNat ≤ _; omega)) fun a (ha : Fresh _ a) => ?_
    have pa : p ≠ a := ne_new (Kn.upd Kn.refl) ha h1
    have px : p ≠ x0 := ne_fresh hx0 h1
    walk_at "go"
    refine ⟨(by show 1 ≤ sizeLine; decide), fun x1 (hx1 : Fresh _ x1) => ?_⟩
    have px1 : p ≠ x1 := ne_new (Kn.upd (Kn.upd (Kn.upd Kn.refl))) hx1 h1
    have ax1 : a ≠ x1 := ne_fresh hx1 (by walk_at "hp")
    walk_at "go"
    refine st_rep upd_same (by omega) (by omega) (smallE (by show 1 * (m : Int).toNat ≤ _; omega)) fun b (hb : Fresh _ b) => ?_
    have pb : p ≠ b := ne_new (Kn.upd (Kn.upd (Kn.upd (Kn.upd Kn.refl)))) hb h1
    have ab : a ≠ b := ne_fresh hb (by walk_at "hp")
    walk_at "go"
    refine ⟨(by show 0 ≤ sizeLine; decide), fun c (hc : Fresh _ c) => ?_⟩
    have pc : p ≠ c := ne_new (Kn.upd (Kn.upd (Kn.upd (Kn.upd (Kn.upd (Kn.upd Kn.refl)))))) hc h1
    have ac : a ≠ c := ne_fresh hc (by walk_at "hp")
    have bc : b ≠ c := ne_fresh hc (by walk_at "hp")
    walk_at "go"
    refine ⟨(by show 3 ≤ sizeLine; decide), fun t (ht : Fresh _ t) => ?_⟩
    have pt : p ≠ t := ne_new (Kn.upd (Kn.upd (Kn.upd (Kn.upd (Kn.upd (Kn.upd (Kn.upd (Kn.upd Kn.refl)))))))) ht h1
    have at' : a ≠ t := ne_fresh ht (by walk_at "hp")
    have bt : b ≠ t := ne_fresh ht (by walk_at "hp")
    have ct : c ≠ t := ne_fresh ht (by walk_at "hp")
    walk_at "go"
    refine k _ [p, a, b, c, t] ⟨DiskS.Ok.new, dx, a, b, c, t, [], upd_same, ?_, ?_, ?_, ?_, Waits.nil, rfl, ab, ac, at', bc, bt, ct⟩ ?_ ?_
    · have : (DiskS.new m v).shown = (List.replicate (m : Int).toNat [v]).flatten := by
        rw [rep_flat, Int.toNat_natCast]
        rfl
      rw [this]
      walk_at "hp"
    · have : (DiskS.new m v).synced = (List.replicate (m : Int).toNat [v]).flatten := by
        rw [rep_flat, Int.toNat_natCast]
        rfl
      rw [this]
      walk_at "hp"
    · walk_at "hp"
    · walk_at "hp"
    · intro z o e zp
      have z1 : z ≠ x0 := ne_fresh hx0 e
      have z2 : z ≠ a := ne_new (Kn.upd Kn.refl) ha e
      have z3 : z ≠ x1 := ne_new (Kn.upd (Kn.upd (Kn.upd Kn.refl))) hx1 e
      have z4 : z ≠ b := ne_new (Kn.upd (Kn.upd (Kn.upd (Kn.upd Kn.refl)))) hb e
      have z5 : z ≠ c := ne_new (Kn.upd (Kn.upd (Kn.upd (Kn.upd (Kn.upd (Kn.upd Kn.refl)))))) hc e
      have z6 : z ≠ t := ne_new (Kn.upd (Kn.upd (Kn.upd (Kn.upd (Kn.upd (Kn.upd (Kn.upd (Kn.upd Kn.refl)))))))) ht e
      walk_at "hp"
    · intro z hz
      simp only [List.mem_cons, List.not_mem_nil, or_false] at hz
      rcases hz with rfl | rfl | rfl | rfl | rfl
      · exact .inl rfl
      · exact .inr (Kn.free (Kn.upd Kn.refl) ha)
      · exact .inr (Kn.free (Kn.upd (Kn.upd (Kn.upd (Kn.upd Kn.refl)))) hb)
      · exact .inr (Kn.free (Kn.upd (Kn.upd (Kn.upd (Kn.upd (Kn.upd (Kn.upd Kn.refl)))))) hc)
      · exact .inr (Kn.free (Kn.upd (Kn.upd (Kn.upd (Kn.upd (Kn.upd (Kn.upd (Kn.upd (Kn.upd Kn.refl)))))))) ht)
  · exact F.binds0 (ps := P_Disk___init__) 2 (fun z => nomatch z) rfl (fun D doc pm an cdv ct us ks hl hk => match us, hl, ks, hk with
      | [_, _], _, [_], _ => ⟨_, _, _, _, _, _, rfl, rfl, rfl⟩)
  · obtain ⟨mv, kb⟩ := F.kbinds0 (ps := P_Disk___init__) 2 ["content"] [] (fun us _ ws => us ++ ws) (fun z => nomatch z) (fun q hq => nomatch hq) (fun r1 _ r3 => r1.append r3)
      (fun D doc pm an cdv ct us mv ws l1 l2 l3 => match us, l1, mv, l2, ws, l3 with
        | [_, _], _, [], _, [_], _ => rfl)
    exact ⟨_, kb⟩

def sp_Disk_check (K : Fr) : Sp := fun vs H Q _ => ∃ (p : Addr) (fp : List Addr) (m n : Nat) (D : DiskS), vs = [.ref p, .int (n : Int)] ∧ DiskAt (He.ga K "Disk") H p fp m D ∧ n < m ∧ Q .non H
abbrev N_Disk_check : List Str := ["self", "cell"]
abbrev P_Disk_check : List Str := ["self", "cell"]
theorem sc_Disk_check : FnScope N_Disk_check P_Disk_check (defScope s_Disk_check) := ⟨rfl, rfl, rfl, by decide +kernel, rfl, by decide +kernel, by decide +kernel⟩
theorem ok_Disk_check {P : Program} {w : World} {K : Fr} {mg : Str → Option Value} {base : Heap} (M : Md K mg) : Okf P w K mg base CX0 3 (He.ma K (He.ga K "Disk") "check") P_Disk_check (sp_Disk_check K) := by
  obtain ⟨fd, F⟩ := M.f_Disk_check
  have nd := sc_Disk_check.nd
  refine ⟨fd, F.ok sc_Disk_check (fun vs H Q E h => ?_) (fun cdv A outer s H vs Q E hr h => ?_), F.kp, F.bindsN (fun _ _ _ _ _ _ us hl => match us, hl with | [_, _], _ => rfl)⟩
  · obtain ⟨p, fp, m, n, D, rfl, _⟩ := h
    rfl
  · obtain ⟨p, fp, m, n, D, rfl, hD, hn, k⟩ := h
    obtain ⟨ok, dx, a, b, c, t, ws, h1, h2, h3, h4, h5, hw, rfl, hne⟩ := hD
    obtain ⟨fd_is_int_in, G_is_int_in, k_is_int_in, b_is_int_in⟩ := ok_is_int_in (P := P) (w := w) (base := base) M
    have r_is_int_in : Room 2 _ := hr.mono (by decide)
    refine ⟨_, PSs.nox (pss_one (ps_if (pt_not (pt_val (pe_call G_is_int_in r_is_int_in (by rfl) M.g_is_int_in k_is_int_in b_is_int_in .nil pass0 (pa_cons (pv 1) (pa_cons pe_int (pa_cons (pe_op op_sub (pe_callB call_len_seq (by rfl) M.n_len (by decide +kernel) (pa_cons (pe_fld (pv 0) rfl) pa_nil)) pe_int) pa_nil))))))
      (pss_one ps_never)
      pss_nil)), ?_⟩
    try dsimp only [cxK]
    walk_at "go"
    refine ⟨_, "int", _, _, rfl, .base (.int _), by decide, ?_⟩
    walk_at "go"
    have e : inV' 0 ((D.shown.length : Int) - 1) (.int (n : Int)) = true := by
      show (decide ((0 : Int) ≤ (n : Int)) && decide ((n : Int) ≤ (D.shown.length : Int) - 1)) = true
      rw [ok.l1, decide_eq_true (by omega), decide_eq_true (by omega)]
      rfl
    refine ifF (by rw [e]; rfl) ?_
    walk_at "go"
    exact k

def sp_Disk_write (K : Fr) : Sp := fun vs H Q _ => ∃ (p : Addr) (fp : List Addr) (m n : Nat) (v : V) (D : DiskS), vs = [.ref p, .int (n : Int), v] ∧ DiskAt (He.ga K "Disk") H p fp m D ∧ n < m ∧ D.wait.length ≤ 50000 ∧
  ∀ H', DiskAt (He.ga K "Disk") H' p fp m (D.write n v) → Mv fp fp H H' → Q .non H'
abbrev N_Disk_write : List Str := ["self", "cell", "content"]
abbrev P_Disk_write : List Str := ["self", "cell", "content"]
theorem sc_Disk_write : FnScope N_Disk_write P_Disk_write (defScope s_Disk_write) := ⟨rfl, rfl, rfl, by decide +kernel, rfl, by decide +kernel, by decide +kernel⟩
theorem ok_Disk_write {P : Program} {w : World} {K : Fr} {mg : Str → Option Value} {base : Heap} (M : Md K mg) : Okf P w K mg base CX0 4 (He.ma K (He.ga K "Disk") "write") P_Disk_write (sp_Disk_write K) := by
  obtain ⟨fd, F⟩ := M.f_Disk_write
  have nd := sc_Disk_write.nd
  refine ⟨fd, F.ok sc_Disk_write (fun vs H Q E h => ?_) (fun cdv A outer s H vs Q E hr h => ?_), F.kp, F.bindsN (fun _ _ _ _ _ _ us hl => match us, hl with | [_, _, _], _ => rfl)⟩
  · obtain ⟨p, fp, m, n, v, D, rfl, _⟩ := h
    rfl
  · obtain ⟨p, fp, m, n, v, D, rfl, hD, hn, hl, k⟩ := h
    obtain ⟨ok, dx, a, b, c, t, ws, h1, h2, h3, h4, h5, hw, rfl, ab, ac, at', bc, bt, ct⟩ := id hD
    have hp2 := ne_lst_ins h2 h1
    have hp3 := ne_lst_ins h3 h1
    have hp4 := ne_lst_ins h4 h1
    have hp5 := ne_lst_ins h5 h1
    obtain ⟨fd_Disk_check, G_Disk_check, k_Disk_check, b_Disk_check⟩ := ok_Disk_check (P := P) (w := w) (base := base) M
    have r_Disk_check : Room 3 _ := hr.mono (by decide)
    refine ⟨_, PSs.nox (pss_cons (ps_expr (pe_meth (pv 0) M.cl_Disk M.me_Disk_check G_Disk_check r_Disk_check b_Disk_check .nil pass0 (pa_cons (pv 1) pa_nil)))
      (pss_cons (ps_augS (pe_fld (pv 0) rfl) pe_int get_list pe_int ip_add set_list)
      (pss_cons (ps_asg (pv 2) (pg_sub (pe_fld (pv 0) rfl) (pv 1) set_list))
      (pss_one (ps_expr (pe_bm PySem.F.plainAttrs_list PySem.F.slot_list_append PySem.F.type_list_append mt_append (pe_fld (pv 0) rfl) (pa_cons (pe_tup (pa_cons (pv 1) (pa_cons (pv 2) pa_nil))) pa_nil))))))), ?_⟩
    try dsimp only [cxK]
    walk_at "go"
    refine ⟨_, _, m, n, D, rfl, hD, hn, ?_⟩
    walk_at "go"
    refine st_setL (xs := D.shown) (by walk_at "hp") (ixN_of (by rw [ok.l1]; exact hn)) ?_
    walk_at "go"
    refine ⟨(by show 2 ≤ sizeLine; decide), fun q (hq : Fresh _ q) => ?_⟩
    walk_at "go"
    refine st_append (xs := ws) (by walk_at "hp") (small (by rw [hw.len]; omega)) ?_
    walk_at "go"
    have nq : ∀ {x o}, H x = some o → x ≠ q := fun {x o} e => by
      refine ne_fresh hq (o := if x = a then HO.lst (D.shown.set n v) else if x = t then .lst (D.write n v).tally else o) ?_
      by_cases e1 : x = a
      · rw [if_pos e1, e1, upd_same]
      · rw [if_neg e1, upd_ne e1]
        by_cases e2 : x = t
        · rw [if_pos e2, e2, upd_same]
          rfl
        · rw [if_neg e2, upd_ne e2, e]
    have qc : c ≠ q := nq h4
    have qa : a ≠ q := nq h2
    have qb : b ≠ q := nq h3
    have qt : t ≠ q := nq h5
    have qp : p ≠ q := nq h1
    refine k _ ⟨ok.write hn, dx, a, b, c, t, ws ++ [.ref q], ?_, ?_, ?_, upd_same, ?_, ?_, rfl, ab, ac, at', bc, bt, ct⟩ ⟨?_, hD.mu, fun _ h => .inl h⟩
    · walk_at "hp"
    · walk_at "hp"
    · walk_at "hp"
    · walk_at "hp"
    · refine Waits.snoc (hw.tups fun z xs hz => ?_) (by walk_at "hp")
      have z1 := ne_tup_lst hz h2
      have z2 := ne_tup_lst hz h4
      have z3 := ne_tup_lst hz h5
      have z4 := nq hz
      walk_at "hp"
    · intro x o e hx
      simp only [List.mem_cons, List.not_mem_nil, or_false, not_or] at hx
      obtain ⟨x1, x2, x3, x4, x5⟩ := hx
      have x6 := nq e
      walk_at "hp"

def sp_Disk_sync (K : Fr) : Sp := fun vs H Q _ => ∃ (p : Addr) (fp : List Addr) (m : Nat) (D : DiskS), vs = [.ref p] ∧ DiskAt (He.ga K "Disk") H p fp m D ∧
  ∀ H' fp', DiskAt (He.ga K "Disk") H' p fp' m D.sync → Mv fp fp' H H' → Q .non H'
abbrev N_Disk_sync : List Str := ["self"]
abbrev P_Disk_sync : List Str := ["self"]
theorem sc_Disk_sync : FnScope N_Disk_sync P_Disk_sync (defScope s_Disk_sync) := ⟨rfl, rfl, rfl, by decide +kernel, rfl, by decide +kernel, by decide +kernel⟩
theorem ok_Disk_sync {P : Program} {w : World} {K : Fr} {mg : Str → Option Value} {base : Heap} (M : Md K mg) : Okf P w K mg base CX0 1 (He.ma K (He.ga K "Disk") "sync") P_Disk_sync (sp_Disk_sync K) := by
  obtain ⟨fd, F⟩ := M.f_Disk_sync
  have nd := sc_Disk_sync.nd
  refine ⟨fd, F.ok sc_Disk_sync (fun vs H Q E h => ?_) (fun cdv A outer s H vs Q E hr h => ?_), F.kp, F.bindsN (fun _ _ _ _ _ _ us hl => match us, hl with | [_], _ => rfl)⟩
  · obtain ⟨p, fp, m, D, rfl, _⟩ := h
    rfl
  · obtain ⟨p, fp, m, D, rfl, hD, k⟩ := h
    obtain ⟨ok, dx, a, b, c, t, ws, h1, h2, h3, h4, h5, hw, rfl, ab, ac, at', bc, bt, ct⟩ := id hD
    have hp2 := ne_lst_ins h2 h1
    have hp3 := ne_lst_ins h3 h1
    have hp4 := ne_lst_ins h4 h1
    have hp5 := ne_lst_ins h5 h1
    skip
    refine ⟨_, PSs.nox (pss_cons (ps_augS (pe_fld (pv 0) rfl) pe_int get_list pe_int ip_add set_list)
      (pss_cons (ps_fld (pv 0) (pe_callTy call_list_of (by rfl) M.n_list (by decide +kernel) (pa_cons (pe_fld (pv 0) rfl) pa_nil)) rfl)
      (pss_one (ps_fld (pv 0) (pe_lst pa_nil) rfl)))), ?_⟩
    try dsimp only [cxK]
    walk_at "go"
    intro l hl
    have nl : ∀ {x o}, H x = some o → x ≠ l := fun e => ne_new (Kn.upd Kn.refl) hl e
    have la := nl h2
    have lb := nl h3
    have lc := nl h4
    have lt := nl h5
    have lp := nl h1
    walk_at "go"
    refine ⟨(by show 0 ≤ sizeLine; decide), fun q (hq : Fresh _ q) => ?_⟩
    have nq : ∀ {x o}, H x = some o → x ≠ q := fun e => ne_new (Kn.upd (Kn.upd (Kn.upd Kn.refl))) hq e
    have qa := nq h2
    have qb := nq h3
    have qt := nq h5
    have qp := nq h1
    have ql : l ≠ q := ne_fresh hq (by walk_at "hp")
    walk_at "go"
    rw [dF_synced, dF_waiting]
    refine k _ [p, a, l, q, t] ⟨ok.sync, dx, a, l, q, t, [], upd_same, ?_, ?_, ?_, ?_, Waits.nil, rfl, la, qa, at', ql, lt.symm, qt.symm⟩ ⟨?_, hD.mu, ?_⟩
    · walk_at "hp"
    · walk_at "hp"
    · walk_at "hp"
    · walk_at "hp"
    · intro x o e hx
      simp only [List.mem_cons, List.not_mem_nil, or_false, not_or] at hx
      obtain ⟨x1, x2, x3, x4, x5⟩ := hx
      have x6 := nq e
      have x7 := nl e
      walk_at "hp"
    · intro x hx
      simp only [List.mem_cons, List.not_mem_nil, or_false] at hx ⊢
      rcases hx with rfl | rfl | rfl | rfl | rfl
      · exact .inl (.inl rfl)
      · exact .inl (.inr (.inl rfl))
      · exact .inr (Kn.free (Kn.upd Kn.refl) hl)
      · exact .inr (Kn.free (Kn.upd (Kn.upd (Kn.upd Kn.refl))) hq)
      · exact .inl (.inr (.inr (.inr (.inr rfl))))

def sp_Disk_lasting (K : Fr) : Sp := fun vs H Q _ => ∃ (p : Addr) (fp : List Addr) (m : Nat) (D : DiskS), vs = [.ref p] ∧ DiskAt (He.ga K "Disk") H p fp m D ∧
  ∀ (q : Addr) (H' : Hp), Fresh H q → Same H H' → H' q = some (.tup D.synced) → Q (.ref q) H'
abbrev N_Disk_lasting : List Str := ["self"]
abbrev P_Disk_lasting : List Str := ["self"]
theorem sc_Disk_lasting : FnScope N_Disk_lasting P_Disk_lasting (defScope s_Disk_lasting) := ⟨rfl, rfl, rfl, by decide +kernel, rfl, by decide +kernel, by decide +kernel⟩
theorem ok_Disk_lasting {P : Program} {w : World} {K : Fr} {mg : Str → Option Value} {base : Heap} (M : Md K mg) : Okf P w K mg base CX0 1 (KB.getterAt "Disk" "lasting" K) P_Disk_lasting (sp_Disk_lasting K) := by
  obtain ⟨fd, F⟩ := M.f_Disk_lasting
  have nd := sc_Disk_lasting.nd
  refine ⟨fd, F.ok sc_Disk_lasting (fun vs H Q E h => ?_) (fun cdv A outer s H vs Q E hr h => ?_), F.kp, F.bindsN (fun _ _ _ _ _ _ us hl => match us, hl with | [_], _ => rfl)⟩
  · obtain ⟨p, fp, m, D, rfl, _⟩ := h
    rfl
  · obtain ⟨p, fp, m, D, rfl, hD, k⟩ := h
    obtain ⟨ok, dx, a, b, c, t, ws, h1, h2, h3, h4, h5, hw, rfl, ab, ac, at', bc, bt, ct⟩ := id hD
    skip
    refine ⟨_, PSs.nox (pss_one (ps_ret (pe_callTy call_tuple_of (by rfl) M.n_tuple (by decide +kernel) (pa_cons (pe_fld (pv 0) rfl) pa_nil)))), ?_⟩
    try dsimp only [cxK]
    walk_at "go"
    refine ⟨_, _, rfl, Or.inl ⟨SqL.of (by assumption), fun q hq => ?_⟩⟩
    exact k q _ hq (same_upd hq) upd_same

def sp_Disk_contents (K : Fr) : Sp := fun vs H Q _ => ∃ (p : Addr) (fp : List Addr) (m : Nat) (D : DiskS), vs = [.ref p] ∧ DiskAt (He.ga K "Disk") H p fp m D ∧
  ∀ (q : Addr) (H' : Hp), Fresh H q → Same H H' → H' q = some (.tup D.shown) → Q (.ref q) H'
abbrev N_Disk_contents : List Str := ["self"]
abbrev P_Disk_contents : List Str := ["self"]
theorem sc_Disk_contents : FnScope N_Disk_contents P_Disk_contents (defScope s_Disk_contents) := ⟨rfl, rfl, rfl, by decide +kernel, rfl, by decide +kernel, by decide +kernel⟩
theorem ok_Disk_contents {P : Program} {w : World} {K : Fr} {mg : Str → Option Value} {base : Heap} (M : Md K mg) : Okf P w K mg base CX0 1 (KB.getterAt "Disk" "contents" K) P_Disk_contents (sp_Disk_contents K) := by
  obtain ⟨fd, F⟩ := M.f_Disk_contents
  have nd := sc_Disk_contents.nd
  refine ⟨fd, F.ok sc_Disk_contents (fun vs H Q E h => ?_) (fun cdv A outer s H vs Q E hr h => ?_), F.kp, F.bindsN (fun _ _ _ _ _ _ us hl => match us, hl with | [_], _ => rfl)⟩
  · obtain ⟨p, fp, m, D, rfl, _⟩ := h
    rfl
  · obtain ⟨p, fp, m, D, rfl, hD, k⟩ := h
    obtain ⟨ok, dx, a, b, c, t, ws, h1, h2, h3, h4, h5, hw, rfl, ab, ac, at', bc, bt, ct⟩ := id hD
    skip
    refine ⟨_, PSs.nox (pss_one (ps_ret (pe_callTy call_tuple_of (by rfl) M.n_tuple (by decide +kernel) (pa_cons (pe_fld (pv 0) rfl) pa_nil)))), ?_⟩
    try dsimp only [cxK]
    walk_at "go"
    refine ⟨_, _, rfl, Or.inl ⟨SqL.of (by assumption), fun q hq => ?_⟩⟩
    exact k q _ hq (same_upd hq) upd_same

def sp_Disk_pending (K : Fr) : Sp := fun vs H Q _ => ∃ (p : Addr) (fp : List Addr) (m : Nat) (D : DiskS), vs = [.ref p] ∧ DiskAt (He.ga K "Disk") H p fp m D ∧
  ∀ (q : Addr) (ws : List V) (H' : Hp), Fresh H q → Same H H' → H' q = some (.lst ws) → Waits H' ws D.wait → Q (.ref q) H'
abbrev N_Disk_pending : List Str := ["self"]
abbrev P_Disk_pending : List Str := ["self"]
theorem sc_Disk_pending : FnScope N_Disk_pending P_Disk_pending (defScope s_Disk_pending) := ⟨rfl, rfl, rfl, by decide +kernel, rfl, by decide +kernel, by decide +kernel⟩
theorem ok_Disk_pending {P : Program} {w : World} {K : Fr} {mg : Str → Option Value} {base : Heap} (M : Md K mg) : Okf P w K mg base CX0 1 (KB.getterAt "Disk" "pending" K) P_Disk_pending (sp_Disk_pending K) := by
  obtain ⟨fd, F⟩ := M.f_Disk_pending
  have nd := sc_Disk_pending.nd
  refine ⟨fd, F.ok sc_Disk_pending (fun vs H Q E h => ?_) (fun cdv A outer s H vs Q E hr h => ?_), F.kp, F.bindsN (fun _ _ _ _ _ _ us hl => match us, hl with | [_], _ => rfl)⟩
  · obtain ⟨p, fp, m, D, rfl, _⟩ := h
    rfl
  · obtain ⟨p, fp, m, D, rfl, hD, k⟩ := h
    obtain ⟨ok, dx, a, b, c, t, ws, h1, h2, h3, h4, h5, hw, rfl, ab, ac, at', bc, bt, ct⟩ := id hD
    skip
    refine ⟨_, PSs.nox (pss_one (ps_ret (pe_callTy call_list_of (by rfl) M.n_list (by decide +kernel) (pa_cons (pe_fld (pv 0) rfl) pa_nil)))), ?_⟩
    try dsimp only [cxK]
    walk_at "go"
    intro q hq
    exact k q ws _ hq (same_upd hq) upd_same (hw.mv (Mv.ofSame (same_upd hq)))

def sp_are_ascending (K : Fr) : Sp := fun vs H Q _ => ∃ (v : V) (n : String) (many : Int), vs = [v, .int many] ∧ TyX K H v (.type n) ∧ n ∈ tyNames ∧
  ((n ≠ "tuple" ∧ Q (.bl false) H) ∨
   (∃ (kt : Addr) (xs : List V), v = .ref kt ∧ n = "tuple" ∧ SqT K H kt xs ∧ xs.length ≤ 10000 ∧ (∀ x ∈ xs, ∃ t, TyX K H x (.type t) ∧ t ∈ tyNames) ∧ ∀ H', Same H H' → Q (.bl (ascV xs many)) H'))
abbrev N_are_ascending : List Str := ["value", "many", "number", "one", "other"]
abbrev P_are_ascending : List Str := ["value", "many"]
theorem sc_are_ascending : FnScope N_are_ascending P_are_ascending (defScope s_are_ascending) := ⟨rfl, rfl, rfl, by decide +kernel, rfl, by decide +kernel, by decide +kernel⟩
theorem ok_are_ascending {P : Program} {w : World} {K : Fr} {mg : Str → Option Value} {base : Heap} (M : Md K mg) : Okf P w K mg base CX0 3 (He.ga K "are_ascending") P_are_ascending (sp_are_ascending K) := by
  obtain ⟨fd, F⟩ := M.f_are_ascending
  have nd := sc_are_ascending.nd
  refine ⟨fd, F.ok sc_are_ascending (fun vs H Q E h => ?_) (fun cdv A outer s H vs Q E hr h => ?_), F.kp, F.bindsN (fun _ _ _ _ _ _ us hl => match us, hl with | [_, _], _ => rfl)⟩
  · obtain ⟨v, n, many, rfl, _⟩ := h
    rfl
  · obtain ⟨v, n, many, rfl, ht, hn, k⟩ := h
    obtain ⟨fd_is_int_in, G_is_int_in, k_is_int_in, b_is_int_in⟩ := ok_is_int_in (P := P) (w := w) (base := base) M
    have r_is_int_in : Room 2 _ := hr.mono (by decide)
    refine ⟨_, PSs.nox (pss_cons (ps_if (PW.pt (pw_or (pt_not (pt_val (pe_callB call_isi (by rfl) M.n_isinstance (by decide +kernel) (pa_cons (pv 0) (pa_cons (pe_bltn (v := .ty "tuple") (by rfl) M.n_tuple (by decide +kernel) rfl) pa_nil))))) (pw_or1 (pt_not (pt_val (pe_callB (cr_all rfl) (by rfl) M.n_all (by decide +kernel) (pa_cons (pe_lc (own := [("number", 2)]) (g := gName 2) (tt := tYes) rfl nd (pi_tup (pv 0)) (blkOk_by (own := [("number", 2)]) (N := N_are_ascending) (sc := defScope s_are_ascending) (by decide +kernel)) (fun _ _ _ _ _ => (pg_name (i := 2) nd rfl (Or.inl rfl))) (fun _ _ _ _ _ => pts_nil) (fun _ _ _ _ _ => (pe_call G_is_int_in r_is_int_in (by rfl) M.g_is_int_in k_is_int_in b_is_int_in .nil pass0 (pa_cons (pv 2) (pa_cons pe_int (pa_cons (pe_op op_sub (pv 1) pe_int) pa_nil)))))) pa_nil)))))))
      (pss_one (ps_ret pe_bl))
      pss_nil)
      (pss_one (ps_ret (pe_callB (cr_all rfl) (by rfl) M.n_all (by decide +kernel) (pa_cons (pe_lc (own := [("one", 3), ("other", 4)]) (g := gTup _ 2 (gCons (gName 3) (gCons (gName 4) gNil))) (tt := tYes) rfl nd (RZ.pi_zipA (by rfl) M.n_zip (pa_cons (pv 0) (pa_cons (pe_slice sl_tupA (pv 0) (po_some pe_int) po_none) pa_nil))) (blkOk_by (own := [("one", 3), ("other", 4)]) (N := N_are_ascending) (sc := defScope s_are_ascending) (by decide +kernel)) (fun _ _ _ _ _ => (pg_tup (by rfl) (pgs_cons (pg_name (i := 3) nd rfl (Or.inl rfl)) (pgs_cons (pg_name (i := 4) nd rfl (Or.inl rfl)) pgs_nil)))) (fun _ _ _ _ _ => pts_nil) (fun _ _ _ _ _ => (pe_cmpR op_lt (pv 3) (pv 4) (nomark _)))) pa_nil))))), ?_⟩
    try dsimp only [cxK]
    walk_at "go"
    have e1 : kitB n "tuple" = some (decide (n = "tuple")) := by
      clear k
      revert hn
      simp only [tyNames, List.mem_cons, List.not_mem_nil, or_false]
      rintro (rfl | rfl | rfl | rfl | rfl | rfl | rfl) <;> decide +kernel
    refine ⟨_, _, _, _, _, rfl, .ty "tuple", ht, kit_ty e1, ?_⟩
    refine ⟨_, rfl, ?_⟩
    rcases k with ⟨nt, k⟩ | ⟨kt, xs, rfl, rfl, hS, hl, htys, k⟩
    · refine ifT (by rw [decide_eq_false nt]; rfl) ?_
      refine ifT rfl ?_
      walk_at "go"
      exact k
    · refine ifF rfl ?_
      walk_at "go"
      refine ⟨_, rfl, ⟨_, hS⟩, fun D hD => lc_map walk_tup (fun i => .bl (inV' 0 (many - 1) (xs.getD i .non))) (by omega) hD (fun H' s1 => SqT.same s1 hS) ?_ ?_⟩
      · rintro i x H1 H2 hi s1 ⟨rfl, hx⟩
        refine ⟨Same.refl _, fun QQ hQ => ?_⟩
        walk_at "go"
        refine ⟨rfl, ?_⟩
        walk_at "go"
        obtain ⟨t, ty, htn⟩ := htys x (List.mem_of_getElem? hx)
        refine ⟨_, _, _, _, rfl, TyX.same s1 ty, htn, hQ _ _ ?_ (Same.refl _)⟩
        rw [List.getD_eq_getElem?_getD, hx]
        rfl
      · intro H1 s1 hD1
        walk_at "go"
        refine ⟨D, (List.range xs.length).map (fun i => inV' 0 (many - 1) (xs.getD i .non)), rfl, SqL.of (by rw [hD1, List.map_map]; rfl), ?_⟩
        refine ⟨_, rfl, ?_⟩
        rw [range_all]
        refine if2 (fun e => ?_) (fun e => ?_)
        · have e' : xs.all (inV' 0 (many - 1)) = false := by
            cases q : xs.all (inV' 0 (many - 1)) with
            | false => rfl
            | true =>
              rw [q] at e
              cases e
          walk_at "go"
          have kk := k H1 s1
          unfold ascV at kk
          rw [e'] at kk
          exact kk
        · have e' : xs.all (inV' 0 (many - 1)) = true := by
            cases q : xs.all (inV' 0 (many - 1)) with
            | true => rfl
            | false =>
              rw [q] at e
              cases e
          walk_at "go"
          have hS1 : SqT K H1 kt xs := SqT.same s1 hS
          have fin : ∀ (b : Addr) (ys : List V) (H2 : Hp), Same H1 H2 → SqT K H2 b ys → (∀ i, ys[i]? = xs[i + 1]?) → ys.length = xs.length - 1 → ∀ D2, H2 D2 = none → ∀ Qd : Hp → Prop, (∀ H3, Same H2 H3 → H3 D2 = some (.lst ((List.range (xs.length - 1)).map fun i => .bl (ltN xs i))) → Qd H3) →
              ∃ W : Nat → Nat → Hp → Prop, (∃ m, W 0 m (upd H2 D2 (.lst []))) ∧ ∀ i m H, W i m H → ((RZ.ItzT K kt b).stop i H ∧ Qd H) ∨ ((RZ.ItzT K kt b).go i H ∧ ∃ Nx : Hp → Prop, (∀ H', Nx H' → ∃ m', m' < m ∧ W (i + 1) m' H') ∧ ∀ x H', (RZ.ItzT K kt b).yld i H x H' →
                gTup K 2 (gCons (gName 3) (gCons (gName 4) gNil)) x (wipe [some (V.ref kt), some (V.int many), none, none, none] [3, 4]) H' fun σ2 H2 => wipe σ2 [3, 4] = wipe [some (V.ref kt), some (V.int many), none, none, none] [3, 4] ∧ tYes σ2 H2 fun b H3 =>
                  if b = true then tOp (rI0 fun i j => V.bl (decide (i < j))) (tVar 3) (tVar 4) σ2 H3 fun y H4 => ∃ acc, H4 D2 = some (.lst acc) ∧ acc.length < sizeLine ∧ Nx (upd H4 D2 (.lst (acc ++ [y]))) else Nx H3) := by
            intro b ys H2 s2 hb hy hyl D2 hD2 Qd hQd
            refine lc_map (walk_zipT (xs := xs) (ys := ys) (n := xs.length - 1) (by omega)) (fun i => .bl (ltN xs i)) (by omega) hD2 (fun H' s3 => ⟨SqT.same (s2.trans s3) hS1, SqT.same s3 hb⟩) ?_ hQd
            rintro i x Ha Hb hi s3 ⟨T, x1, y1, rfl, hT, rfl, hx1, hy1⟩
            refine ⟨same_upd hT, fun QQ hQ => ?_⟩
            refine st_gtup rfl (SqT.of upd_same) rfl ?_
            have hx1' : xs[i]? = some x1 := hx1
            have hy1' : xs[i + 1]? = some y1 := (hy i).symm.trans hy1
            obtain ⟨i1, rfl, _⟩ := inV'_int (List.all_eq_true.mp e' x1 (List.mem_of_getElem? hx1'))
            obtain ⟨i2, rfl, _⟩ := inV'_int (List.all_eq_true.mp e' y1 (List.mem_of_getElem? hy1'))
            walk_at "go"
            refine ⟨rfl, ?_⟩
            walk_at "go"
            refine hQ _ _ ?_ (Same.refl _)
            unfold ltN
            rw [List.getD_eq_getElem?_getD, List.getD_eq_getElem?_getD, hx1', hy1']
            rfl
          have last : ∀ (H3 : Hp) (D2 : Addr), Same H1 H3 → H3 D2 = some (.lst ((List.range (xs.length - 1)).map fun i => .bl (ltN xs i))) → rAll K [.ref D2] H3 Q := by
            intro H3 D2 s3 h3
            refine ⟨D2, (List.range (xs.length - 1)).map (ltN xs), rfl, SqL.of (by rw [h3, List.map_map]; rfl), ?_⟩
            have kk := k H3 (s1.trans s3)
            unfold ascV at kk
            rw [e', Bool.true_and] at kk
            have e3 : ((List.range (xs.length - 1)).map (ltN xs)).all id = (List.range (xs.length - 1)).all (ltN xs) := by
              simp [List.all_map, Function.comp_def]
            rw [e3]
            exact kk
          refine ⟨kt, xs, rfl, hS1, fun hw => ?_, fun hw b hb => ?_⟩
          · have hx0 : xs = [] := by
              have h1 := hw.1
              have h2 : HT.sIx xs.length 0 (some 1) = min 1 xs.length := HT.sIx_nat xs.length 0 1
              rw [h2] at h1
              exact List.eq_nil_of_length_eq_zero (by omega)
            walk_at "go"
            refine ⟨_, _, xs, xs, rfl, Or.inr ⟨hS1, hS1, fun D2 hD2 => ?_⟩⟩
            refine fin kt xs H1 (Same.refl _) hS1 (fun i => by rw [hx0]; simp) (by rw [hx0]; rfl) D2 hD2 _ fun H3 s3 h3 => ?_
            walk_at "go"
            exact last H3 D2 s3 h3
          · walk_at "go"
            have hc : cutV xs (some 1) none = xs.drop 1 := by
              unfold cutV
              have h2 : HT.sIx xs.length 0 (some 1) = min 1 xs.length := HT.sIx_nat xs.length 0 1
              rw [h2, HT.sIx_none]
              by_cases hx0 : xs.length = 0
              · rw [List.eq_nil_of_length_eq_zero hx0]
                rfl
              · have : min 1 xs.length = 1 := by omega
                rw [this, List.take_of_length_le]
                rw [List.length_drop]
                omega
            rw [hc]
            refine ⟨_, _, xs, xs.drop 1, rfl, Or.inr ⟨SqT.same (same_upd hb) hS1, SqT.of upd_same, fun D2 hD2 => ?_⟩⟩
            refine fin b (xs.drop 1) _ (same_upd hb) (SqT.of upd_same) (fun i => by rw [List.getElem?_drop, Nat.add_comm]) (by rw [List.length_drop]) D2 hD2 _ fun H3 s3 h3 => ?_
            walk_at "go"
            exact last H3 D2 ((same_upd hb).trans s3) h3

def sp_Disk_after_failure (K : Fr) : Sp := fun vs H Q _ => ∃ (p kt : Addr) (fp : List Addr) (m : Nat) (D : DiskS) (ks : List Nat), vs = [.ref p, .ref kt] ∧ DiskAt (He.ga K "Disk") H p fp m D ∧
  SqT K H kt (ks.map fun k => V.int ((k : Nat) : Int)) ∧ (∀ k ∈ ks, k < D.wait.length) ∧
  ∀ (q : Addr) (H' : Hp), Fresh H q → Same H H' → H' q = some (.lst (D.after ks)) → Q (.ref q) H'
abbrev N_Disk_after_failure : List Str := ["self", "kept", "found", "number", "cell", "content"]
abbrev P_Disk_after_failure : List Str := ["self", "kept"]
theorem sc_Disk_after_failure : FnScope N_Disk_after_failure P_Disk_after_failure (defScope s_Disk_after_failure) := ⟨rfl, rfl, rfl, by decide +kernel, rfl, by decide +kernel, by decide +kernel⟩
theorem ok_Disk_after_failure {P : Program} {w : World} {K : Fr} {mg : Str → Option Value} {base : Heap} (M : Md K mg) : Okf P w K mg base CX0 1 (He.ma K (He.ga K "Disk") "after_failure") P_Disk_after_failure (sp_Disk_after_failure K) := by
  obtain ⟨fd, F⟩ := M.f_Disk_after_failure
  have nd := sc_Disk_after_failure.nd
  refine ⟨fd, F.ok sc_Disk_after_failure (fun vs H Q E h => ?_) (fun cdv A outer s H vs Q E hr h => ?_), F.kp, F.bindsN (fun _ _ _ _ _ _ us hl => match us, hl with | [_, _], _ => rfl)⟩
  · obtain ⟨p, kt, fp, m, D, ks, rfl, _⟩ := h
    rfl
  · obtain ⟨p, kt, fp, m, D, ks, rfl, hD, hS, hk, k⟩ := h
    obtain ⟨ok, dx, a, b, c, t, ws, h1, h2, h3, h4, h5, hw, rfl, ab, ac, at', bc, bt, ct⟩ := id hD
    skip
    refine ⟨_, PSs.nox (pss_cons (ps_set (i := 2) nd rfl (Or.inl rfl) (pe_callTy call_list_of (by rfl) M.n_list (by decide +kernel) (pa_cons (pe_fld (pv 0) rfl) pa_nil)))
      (pss_cons (ps_for PassesOwn.never rfl (pi_tup (pv 1)) (pg_name (i := 3) nd rfl (Or.inl rfl))
      (pss_cons (ps_asg (pe_ix ix_list (pe_fld (pv 0) rfl) (pv 3) (fun _ _ => rfl)) (pg_tup (by rfl) (pgs_cons (pg_name (i := 4) nd rfl (Or.inl rfl)) (pgs_cons (pg_name (i := 5) nd rfl (Or.inl rfl)) pgs_nil))))
      (pss_one (ps_asg (pv 5) (pg_sub (pv 2) (pv 4) set_list)))))
      (pss_one (ps_ret (pv 2))))), ?_⟩
    try dsimp only [cxK]
    walk_at "go"
    intro q hq
    walk_at "go"
    refine ⟨_, rfl, ⟨_, SqT.same (same_upd hq) hS⟩, for_tup (K := K) (a := kt) (xs := ks.map fun k => V.int ((k : Nat) : Int)) (fun i σ H2 => ∃ (x y z : Option V), σ = [some (.ref p), some (.ref kt), some (.ref q), x, y, z] ∧ Same H H2 ∧ H2 q = some (.lst ((ks.take i).foldl (DiskS.put1 D.wait) D.synced)))
      ⟨none, none, none, rfl, same_upd hq, upd_same⟩ (fun i σ H2 _ ⟨_, _, _, _, s2, _⟩ => SqT.same s2 hS) ?_ ?_⟩
    · rintro i y σ H2 hi ⟨x, y', z, rfl, s2, hq2⟩
      obtain ⟨n, hn, rfl⟩ := getm hi
      have hnw := hk n (List.mem_of_getElem? hn)
      obtain ⟨⟨cell, v⟩, hcv⟩ : ∃ e, D.wait[n]? = some e := ⟨_, List.getElem?_eq_getElem hnw⟩
      obtain ⟨tt, hw1, hw2⟩ := hw.at_ n cell v hcv
      have hcell : cell < m := ok.wt _ (List.mem_of_getElem? hcv)
      have g1 := s2 _ _ h1
      have g4 := s2 _ _ h4
      have gt := s2 _ _ hw2
      walk_at "go"
      refine st_gtup rfl (SqT.of gt) rfl ?_
      walk_at "go"
      refine st_setL hq2 (j := cell) (ixN_of (by rw [DiskS.fold_len, ok.l2]; exact hcell)) ?_
      walk_at "go"
      refine ⟨_, _, _, rfl, same_mut s2 hq, ?_⟩
      rw [upd_same]
      have et : ks.take (i + 1) = ks.take i ++ [n] := by
        rw [List.take_add_one, hn]
        rfl
      rw [et, List.foldl_append]
      show some (HO.lst _) = some (HO.lst (DiskS.put1 D.wait _ n))
      unfold DiskS.put1
      rw [hcv]
    · rintro σ H2 ⟨x, y', z, rfl, s2, hq2⟩
      rw [List.length_map, List.take_length] at hq2
      walk_at "go"
      exact k q H2 hq s2 hq2

def sp_Disk_fail (K : Fr) : Sp := fun vs H Q _ => ∃ (p kt : Addr) (fp : List Addr) (m : Nat) (D : DiskS) (ks : List Nat), vs = [.ref p, .ref kt] ∧ DiskAt (He.ga K "Disk") H p fp m D ∧
  SqT K H kt (ks.map fun k => V.int ((k : Nat) : Int)) ∧ ks.Pairwise (· < ·) ∧ (∀ k ∈ ks, k < D.wait.length) ∧ ks.length ≤ 10000 ∧
  ∀ H' fp', DiskAt (He.ga K "Disk") H' p fp' m (D.fail ks) → Mv fp fp' H H' → Q .non H'
abbrev N_Disk_fail : List Str := ["self", "kept"]
abbrev P_Disk_fail : List Str := ["self", "kept"]
theorem sc_Disk_fail : FnScope N_Disk_fail P_Disk_fail (defScope s_Disk_fail) := ⟨rfl, rfl, rfl, by decide +kernel, rfl, by decide +kernel, by decide +kernel⟩
theorem ok_Disk_fail {P : Program} {w : World} {K : Fr} {mg : Str → Option Value} {base : Heap} (M : Md K mg) : Okf P w K mg base CX0 4 (He.ma K (He.ga K "Disk") "fail") P_Disk_fail (sp_Disk_fail K) := by
  obtain ⟨fd, F⟩ := M.f_Disk_fail
  have nd := sc_Disk_fail.nd
  refine ⟨fd, F.ok sc_Disk_fail (fun vs H Q E h => ?_) (fun cdv A outer s H vs Q E hr h => ?_), F.kp, F.bindsN (fun _ _ _ _ _ _ us hl => match us, hl with | [_, _], _ => rfl)⟩
  · obtain ⟨p, kt, fp, m, D, ks, rfl, _⟩ := h
    rfl
  · obtain ⟨p, kt, fp, m, D, ks, rfl, hD, hS, hpw, hk, hkl, k⟩ := h
    obtain ⟨ok, dx, a, b, c, t, ws, h1, h2, h3, h4, h5, hw, rfl, ab, ac, at', bc, bt, ct⟩ := id hD
    obtain ⟨fd_are_ascending, G_are_ascending, k_are_ascending, b_are_ascending⟩ := ok_are_ascending (P := P) (w := w) (base := base) M
    have r_are_ascending : Room 3 _ := hr.mono (by decide)
    obtain ⟨fd_Disk_after_failure, G_Disk_after_failure, k_Disk_after_failure, b_Disk_after_failure⟩ := ok_Disk_after_failure (P := P) (w := w) (base := base) M
    have r_Disk_after_failure : Room 1 _ := hr.mono (by decide)
    refine ⟨_, PSs.nox (pss_cons (ps_if (pt_not (pt_val (pe_call G_are_ascending r_are_ascending (by rfl) M.g_are_ascending k_are_ascending b_are_ascending .nil pass0 (pa_cons (pv 1) (pa_cons (pe_callB call_len_seq (by rfl) M.n_len (by decide +kernel) (pa_cons (pe_fld (pv 0) rfl) pa_nil)) pa_nil)))))
      (pss_one ps_never)
      pss_nil)
      (pss_cons (ps_fld (pv 0) (pe_meth (pv 0) M.cl_Disk M.me_Disk_after_failure G_Disk_after_failure r_Disk_after_failure b_Disk_after_failure .nil pass0 (pa_cons (pv 1) pa_nil)) rfl)
      (pss_cons (ps_fld (pv 0) (pe_callTy call_list_of (by rfl) M.n_list (by decide +kernel) (pa_cons (pe_fld (pv 0) rfl) pa_nil)) rfl)
      (pss_one (ps_fld (pv 0) (pe_lst pa_nil) rfl))))), ?_⟩
    try dsimp only [cxK]
    walk_at "go"
    refine ⟨_, "tuple", _, rfl, SqT.ty hS, by decide, Or.inr ⟨kt, _, rfl, rfl, hS, by rw [List.length_map]; exact hkl, fun x hx => ?_, fun H1 s1 => ?_⟩⟩
    · obtain ⟨n, _, rfl⟩ := List.mem_map.mp hx
      exact ⟨"int", .base (.int _), by decide⟩
    · have e : ascV (ks.map fun k => V.int ((k : Nat) : Int)) (ws.length : Int) = true := by
        rw [hw.len]
        exact nats_asc hpw hk
      walk_at "go"
      refine ifF (by rw [e]; rfl) ?_
      have d1 : DiskAt (He.ga K "Disk") H1 p [p, a, b, c, t] m D := hD.same s1
      have g1 := s1 _ _ h1
      have g2 := s1 _ _ h2
      have g5 := s1 _ _ h5
      walk_at "go"
      refine ⟨p, kt, _, m, D, ks, rfl, d1, SqT.same s1 hS, hk, fun l H2 hl s2 hl2 => ?_⟩
      have f1 := s2 _ _ g1
      have f2 := s2 _ _ g2
      have f5 := s2 _ _ g5
      have s12 := s1.trans s2
      have lp : p ≠ l := ne_fresh hl g1
      have lt : t ≠ l := ne_fresh hl g5
      have pt : t ≠ p := ne_lst_ins h5 h1
      walk_at "go"
      rw [dF_synced]
      walk_at "go"
      intro q hq
      have nq : ∀ {x o}, H2 x = some o → x ≠ q := fun e => ne_new (Kn.upd Kn.refl) hq e
      have qp := nq f1
      have qt := nq f5
      have ql := nq hl2
      walk_at "go"
      rw [dF_shown]
      refine ⟨(by show 0 ≤ sizeLine; decide), fun r (hr' : Fresh _ r) => ?_⟩
      have nr : ∀ {x o}, H2 x = some o → x ≠ r := fun e => ne_new (Kn.upd (Kn.upd (Kn.upd Kn.refl))) hr' e
      have rp := nr f1
      have rt := nr f5
      have rl := nr hl2
      have rq : q ≠ r := ne_fresh hr' (by walk_at "hp")
      walk_at "go"
      rw [dF_waiting]
      refine k _ [p, q, l, r, t] ⟨ok.fail, dx, q, l, r, t, [], upd_same, ?_, ?_, ?_, ?_, Waits.nil, rfl, ql.symm, rq, qt.symm, rl, lt.symm, rt.symm⟩ ⟨?_, hD.mu, ?_⟩
      · walk_at "hp"
      · walk_at "hp"
      · walk_at "hp"
      · walk_at "hp"
      · intro x o e hx
        simp only [List.mem_cons, List.not_mem_nil, or_false, not_or] at hx
        obtain ⟨x1, x2, x3, x4, x5⟩ := hx
        have e2 := s12 _ _ e
        have x6 := nq e2
        have x7 := nr e2
        walk_at "hp"
      · intro x hx
        simp only [List.mem_cons, List.not_mem_nil, or_false] at hx ⊢
        rcases hx with rfl | rfl | rfl | rfl | rfl
        · exact .inl (.inl rfl)
        · exact .inr (s12.free (Kn.free (Kn.upd Kn.refl) hq))
        · exact .inr (s1.free hl)
        · exact .inr (s12.free (Kn.free (Kn.upd (Kn.upd (Kn.upd Kn.refl))) hr'))
        · exact .inl (.inr (.inr (.inr (.inr rfl))))

def sp_law (K : Fr) : Sp := fun vs H Q _ => ∃ (a : Addr) (ns : List Int), vs = [.ref a] ∧ SqL K H a (ns.map V.int) ∧ ns.length ≤ 63 ∧ ∀ H', Q (.bl true) H'
/-- what the three disks have in common -/
structure Tri (D : Nat → DiskS) (S : List Int) : Prop where
  a0 : (D 0).shown = S.map V.int
  a1 : (D 1).shown = S.map V.int
  a2 : (D 2).shown = S.map V.int
  b0 : (D 0).synced = S.map V.int
  b1 : ∃ T : List Int, (D 1).synced = T.map V.int
  f1 : (D 1).Full
  f2 : (D 2).Full
theorem fl_ints {S : List Int} : ∀ v ∈ S.map V.int, isFl v = true := fun v hv => by
  obtain ⟨i, _, rfl⟩ := List.mem_map.mp hv
  rfl
theorem one_len {L : List (Addr × List Int)} {ks : List (Addr × List Int)} {S : List Int} (h0 : ks ≠ []) (hS : ∀ p ∈ ks, p.2 = S) (nd : (L.map (·.2)).Nodup) (h1 : ∀ p ∈ L, p ∈ ks) (h2 : ∀ p ∈ ks, p.2 ∈ L.map (·.2)) : L.length = 1 := by
  match L with
  | [] =>
    cases ks with
    | nil => exact absurd rfl h0
    | cons p ks => exact nomatch (h2 p List.mem_cons_self)
  | [_] => rfl
  | p :: q :: L =>
    have e1 := hS p (h1 p List.mem_cons_self)
    have e2 := hS q (h1 q (List.mem_cons_of_mem _ List.mem_cons_self))
    have : (p.2 :: q.2 :: L.map (·.2)).Nodup := nd
    rw [e1, e2] at this
    exact absurd (List.mem_cons_self) (List.nodup_cons.mp this).1
abbrev N_law : List Str := ["_law_script", "_law_d", "_law_step", "_law_cells", "_law_disks", "_law_turn", "_law_cell", "_law_what", "_law_disk", "_law_many", "_law_lasting", "_law_k"]
abbrev P_law : List Str := ["_law_script"]
theorem sc_law : FnScope N_law P_law (defScope s_law) := ⟨rfl, rfl, rfl, by decide +kernel, rfl, by decide +kernel, by decide +kernel⟩
theorem ok_law {P : Program} {w : World} {K : Fr} {mg : Str → Option Value} (M : Md K mg) : OkL P w K mg CX0 14 (He.ga K "law") P_law (sp_law K) := by
  obtain ⟨fd, F⟩ := M.f_law
  have nd := sc_law.nd
  refine ⟨fd, fun base => F.ok sc_law (fun vs H Q E h => ?_) (fun cdv A outer s H vs Q E hr h => ?_), fun s us hl => F.bindsA (ps := P_law) (fun _ _ _ _ _ _ us hl => match us, hl with | [_], _ => rfl) s us hl⟩
  · obtain ⟨a, ns, rfl, _⟩ := h
    rfl
  · obtain ⟨a, ns, rfl, hS, hlen, k⟩ := h
    obtain ⟨fd__law_random, G__law_random, k__law_random, b__law_random⟩ := ok__law_random (P := P) (w := w) (base := base) M
    have r__law_random : Room 1 _ := hr.mono (by decide)
    obtain ⟨fd__law_below, G__law_below, k__law_below, b__law_below⟩ := ok__law_below (P := P) (w := w) (base := base) M
    have r__law_below : Room 1 _ := hr.mono (by decide)
    obtain ⟨fd_Disk___init__, G_Disk___init__, k_Disk___init__, ⟨ds_Disk___init__, v_Disk___init__, b_Disk___init__⟩, ⟨g_Disk___init__, kb1_Disk___init__⟩⟩ := ok_Disk___init__ (P := P) (w := w) (base := base) M
    have r_Disk___init__ : Room 4 _ := hr.mono (by decide)
    obtain ⟨fd_Disk_write, G_Disk_write, k_Disk_write, b_Disk_write⟩ := ok_Disk_write (P := P) (w := w) (base := base) M
    have r_Disk_write : Room 4 _ := hr.mono (by decide)
    obtain ⟨fd_Disk_sync, G_Disk_sync, k_Disk_sync, b_Disk_sync⟩ := ok_Disk_sync (P := P) (w := w) (base := base) M
    have r_Disk_sync : Room 1 _ := hr.mono (by decide)
    obtain ⟨fd_Disk_lasting, G_Disk_lasting, k_Disk_lasting, b_Disk_lasting⟩ := ok_Disk_lasting (P := P) (w := w) (base := base) M
    have r_Disk_lasting : Room 2 _ := hr.mono (by decide)
    obtain ⟨fd_Disk_contents, G_Disk_contents, k_Disk_contents, b_Disk_contents⟩ := ok_Disk_contents (P := P) (w := w) (base := base) M
    have r_Disk_contents : Room 2 _ := hr.mono (by decide)
    obtain ⟨fd_Disk_pending, G_Disk_pending, k_Disk_pending, b_Disk_pending⟩ := ok_Disk_pending (P := P) (w := w) (base := base) M
    have r_Disk_pending : Room 2 _ := hr.mono (by decide)
    obtain ⟨fd_Disk_fail, G_Disk_fail, k_Disk_fail, b_Disk_fail⟩ := ok_Disk_fail (P := P) (w := w) (base := base) M
    have r_Disk_fail : Room 4 _ := hr.mono (by decide)
    refine ⟨_, PSs.nox (pss_cons (ps_set (i := 1) nd rfl (Or.inl rfl) (pe_call G__law_random r__law_random (by rfl) M.g__law_random k__law_random b__law_random .nil pass0 (pa_cons (pv 0) (pa_cons pe_int pa_nil))))
      (pss_cons (ps_for PassesOwn.never rfl (pi_range1 (by rfl) M.n_range (pa_cons pe_int pa_nil)) (pg_name (i := 2) nd rfl (Or.inl rfl))
      (pss_cons (ps_set (i := 3) nd rfl (Or.inr rfl) (pe_op op_add pe_int (pe_call G__law_below r__law_below (by rfl) M.g__law_below k__law_below b__law_below .nil pass0 (pa_cons (pv 1) (pa_cons pe_int pa_nil)))))
      (pss_cons (ps_setLc (i := 4) (own := [("_law_k", 11)]) (g := gName 11) (tt := tYes) rfl nd rfl rfl (sw_true rfl rfl rfl (by decide +kernel)) (pi_range1 (by rfl) M.n_range (pa_cons pe_int pa_nil)) (blkOk_by (own := [("_law_k", 11)]) (N := N_law) (sc := defScope s_law) (by decide +kernel)) (fun _ _ _ _ _ => (pg_name (i := 11) nd rfl (Or.inl rfl))) (fun _ _ _ _ _ => pts_nil) (fun _ _ _ _ _ => (pe_makeK M.mk_Disk G_Disk___init__ r_Disk___init__ (by rfl) M.g_Disk kb1_Disk___init__ pass0 (pa_cons (pv 3) pa_nil) (pk_cons pe_int pk_nil))))
      (pss_cons (ps_for PassesOwn.never rfl (pi_range1 (by rfl) M.n_range (pa_cons (pe_call G__law_below r__law_below (by rfl) M.g__law_below k__law_below b__law_below .nil pass0 (pa_cons (pv 1) (pa_cons pe_int pa_nil))) pa_nil)) (pg_name (i := 5) nd rfl (Or.inl rfl))
      (pss_cons (ps_par (i := 6) (j := 7) (by rfl) nd rfl rfl (by decide) rfl rfl (pa_cons (pe_call G__law_below r__law_below (by rfl) M.g__law_below k__law_below b__law_below .nil pass0 (pa_cons (pv 1) (pa_cons (pv 3) pa_nil))) (pa_cons (pe_call G__law_below r__law_below (by rfl) M.g__law_below k__law_below b__law_below .nil pass0 (pa_cons (pv 1) (pa_cons pe_int pa_nil))) pa_nil)) (by rfl))
      (pss_cons (ps_for PassesOwn.never rfl (pi_list (pv 4)) (pg_name (i := 8) nd rfl (Or.inl rfl))
      (pss_one (ps_expr (pe_meth (pv 8) M.cl_Disk M.me_Disk_write G_Disk_write r_Disk_write b_Disk_write .nil pass0 (pa_cons (pv 6) (pa_cons (pv 7) pa_nil))))))
      (pss_cons (ps_expr (pe_meth0 (pe_ix ix_list (pv 4) pe_int (fun _ _ => rfl)) M.cl_Disk M.me_Disk_sync G_Disk_sync r_Disk_sync b_Disk_sync .nil pass0))
      (Evl.pss_cut (ps_if (pt_cmpR op_eq (pe_call G__law_below r__law_below (by rfl) M.g__law_below k__law_below b__law_below .nil pass0 (pa_cons (pv 1) (pa_cons pe_int pa_nil))) pe_int (nomark _))
      (pss_one (ps_expr (pe_meth0 (pe_ix ix_list (pv 4) pe_int (fun _ _ => rfl)) M.cl_Disk M.me_Disk_sync G_Disk_sync r_Disk_sync b_Disk_sync .nil pass0)))
      pss_nil)
      (pss_one (ps_if (PW.pt (pw_or (pt_cmpR op_ne (pe_lenSetT rfl hr.units (by rfl) M.n_len (by rfl) M.n_set (pe_lc (own := [("_law_disk", 8)]) (g := gName 8) (tt := tYes) rfl nd (pi_list (pv 4)) (blkOk_by (own := [("_law_disk", 8)]) (N := N_law) (sc := defScope s_law) (by decide +kernel)) (fun _ _ _ _ _ => (pg_name (i := 8) nd rfl (Or.inl rfl))) (fun _ _ _ _ _ => pts_nil) (fun _ _ _ _ _ => (pe_prop (pv 8) M.cl_Disk M.pr_Disk_contents G_Disk_contents r_Disk_contents b_Disk_contents .nil pass0 rfl)))) pe_int (nomark _)) (pw_or1 (pt_cmpR (op_neD hr.units) (pe_prop (pe_ix ix_list (pv 4) pe_int (fun _ _ => rfl)) M.cl_Disk M.pr_Disk_lasting G_Disk_lasting r_Disk_lasting b_Disk_lasting .nil pass0 rfl) (pe_prop (pe_ix ix_list (pv 4) pe_int (fun _ _ => rfl)) M.cl_Disk M.pr_Disk_contents G_Disk_contents r_Disk_contents b_Disk_contents .nil pass0 rfl) (nomark _)))))
      (pss_one (ps_ret pe_bl))
      pss_nil)))))))
      (pss_cons (ps_set (i := 9) nd rfl (Or.inl rfl) (pe_callB call_len_seq (by rfl) M.n_len (by decide +kernel) (pa_cons (pe_prop (pe_ix ix_list (pv 4) pe_int (fun _ _ => rfl)) M.cl_Disk M.pr_Disk_pending G_Disk_pending r_Disk_pending b_Disk_pending .nil pass0 rfl) pa_nil)))
      (pss_cons (ps_expr (pe_meth (pe_ix ix_list (pv 4) pe_int (fun _ _ => rfl)) M.cl_Disk M.me_Disk_fail G_Disk_fail r_Disk_fail b_Disk_fail .nil pass0 (pa_cons (pe_tupRg rfl (by rfl) M.n_tuple (prg_1 (by rfl) M.n_range (pv 9))) pa_nil)))
      (pss_cons (ps_set (i := 10) nd rfl (Or.inl rfl) (pe_prop (pe_ix ix_list (pv 4) pe_int (fun _ _ => rfl)) M.cl_Disk M.pr_Disk_lasting G_Disk_lasting r_Disk_lasting b_Disk_lasting .nil pass0 rfl))
      (pss_cons (ps_expr (pe_meth (pe_ix ix_list (pv 4) pe_int (fun _ _ => rfl)) M.cl_Disk M.me_Disk_fail G_Disk_fail r_Disk_fail b_Disk_fail .nil pass0 (pa_cons (pe_tup pa_nil) pa_nil)))
      (pss_one (ps_if (PW.pt (pw_or (pt_cmpR (op_neD hr.units) (pe_prop (pe_ix ix_list (pv 4) pe_int (fun _ _ => rfl)) M.cl_Disk M.pr_Disk_lasting G_Disk_lasting r_Disk_lasting b_Disk_lasting .nil pass0 rfl) (pe_prop (pe_ix ix_list (pv 4) pe_int (fun _ _ => rfl)) M.cl_Disk M.pr_Disk_lasting G_Disk_lasting r_Disk_lasting b_Disk_lasting .nil pass0 rfl) (nomark _)) (pw_or (pt_cmpR (op_neD hr.units) (pe_prop (pe_ix ix_list (pv 4) pe_int (fun _ _ => rfl)) M.cl_Disk M.pr_Disk_contents G_Disk_contents r_Disk_contents b_Disk_contents .nil pass0 rfl) (pv 10) (nomark _)) (pw_or1 (pt_cmpR (op_neD hr.units) (pe_prop (pe_ix ix_list (pv 4) pe_int (fun _ _ => rfl)) M.cl_Disk M.pr_Disk_pending G_Disk_pending r_Disk_pending b_Disk_pending .nil pass0 rfl) (pe_lst pa_nil) (nomark _))))))
      (pss_one (ps_ret pe_bl))
      pss_nil))))))))))
      (pss_one (ps_ret pe_bl)))), ?_⟩
    try dsimp only [cxK]
    walk_at "go"
    refine ⟨a, 4, ns, rfl, hS, hlen, fun d H1 hd s1 r1 => ?_⟩
    walk_at "go"
    refine ⟨by decide, by decide, for_range (lo := 0) (n := (3 : Int).toNat) (fun i σ H' => ∃ (x2 x3 x4 x5 x6 x7 x8 x9 x10 x11 : Option V), σ = [some (.ref a), some (.ref d), x2, x3, x4, x5, x6, x7, x8, x9, x10, x11] ∧ Rng H' d) ?_ ?_ ?_⟩
    · exact ⟨_, _, _, _, _, _, _, _, _, _, rfl, r1⟩
    · rintro i σ H2 hi ⟨x2, x3, x4, x5, x6, x7, x8, x9, x10, x11, rfl, r2⟩
      walk_at "go"
      refine ⟨d, 6, rfl, by decide, by decide, r2, fun c H3 hc r3 m3 => ?_⟩
      walk_at "go"
      rw [show (1 + (c : Int)) = ((1 + c : Nat) : Int) by omega]
      refine ⟨by decide, by decide, fun l hl => ?_⟩
      have ld : l ≠ d := by
        obtain ⟨_, e, _⟩ := r3
        exact Ne.symm (ne_fresh hl e)
      refine lc_range (lo := 0) (n := (3 : Int).toNat) (fun i H' => ∃ (p : Nat → Addr) (fp : Nat → List Addr) (D : Nat → DiskS), Many (He.ga K "Disk") H' d l i p fp (1 + c) D ∧ ∀ j, j < i → D j = DiskS.new (1 + c) (.int 1)) ?_ ?_ ?_
      · exact ⟨fun _ => 0, fun _ => [], fun _ => DiskS.new 0 .non, ⟨r3.same (same_upd hl), fun _ h => absurd h (Nat.not_lt_zero _), fun _ h => absurd h (Nat.not_lt_zero _), fun _ _ h => absurd h (Nat.not_lt_zero _), upd_same, ld, fun _ h => absurd h (Nat.not_lt_zero _)⟩, fun _ h => absurd h (Nat.not_lt_zero _)⟩
      · rintro j H4 hj ⟨p, fp, D, w, hD⟩
        walk_at "go"
        refine ⟨rfl, ?_⟩
        walk_at "go"
        refine ifT rfl ?_
        walk_at "go"
        refine ⟨rfl, rfl, fun q dx np ndx nex => ?_⟩
        refine ⟨q, dx, 1 + c, .int 1, rfl, upd_same, by omega, by omega, fun H5 fq hT kp fr => ⟨rfl, ?_⟩⟩
        obtain ⟨s5, fn5⟩ := made np ndx kp fr
        refine ⟨_, s5 _ _ w.ls, small (by rw [List.length_map, List.length_range]; have : j < 3 := hj; omega), _, _, _, w.add s5 fn5 hT, fun b hb => ?_⟩
        by_cases e : b = j
        · subst e
          exact fset_same
        · rw [fset_ne e]
          exact hD b (by omega)
      · rintro H4 ⟨p, fp, D, w, hD⟩
        have w : Many (He.ga K "Disk") H4 d l 3 p fp (1 + c) D := w
        have tr0 : Tri D (List.replicate (1 + c) 1) := by
          have e : (DiskS.new (1 + c) (.int 1)).shown = (List.replicate (1 + c) (1 : Int)).map V.int := by rw [List.map_replicate]; rfl
          have h0 := hD 0 (by decide)
          have h1 := hD 1 (by decide)
          have h2 := hD 2 (by decide)
          exact ⟨by rw [h0]; exact e, by rw [h1]; exact e, by rw [h2]; exact e, by rw [h0]; exact e, ⟨_, by rw [h1]; exact e⟩, by rw [h1]; exact DiskS.Full.new, by rw [h2]; exact DiskS.Full.new⟩
        have wl0 : ∀ j, j < 3 → (D j).wait.length ≤ 0 := fun j hj => by
          rw [hD j hj]
          exact Nat.le_refl _
        walk_at "go"
        refine ⟨d, 20, rfl, by decide, by decide, w.r, fun turns H5 ht r5 m5 => ?_⟩
        walk_at "go"
        refine ⟨by omega, by omega, for_range (lo := 0) (n := (turns : Int).toNat) (fun j σ H' => ∃ (fp : Nat → List Addr) (D : Nat → DiskS) (S : List Int) (x2 x5 x6 x7 x8 x9 x10 x11 : Option V), σ = [some (.ref a), some (.ref d), x2, some (.int ((1 + c : Nat) : Int)), some (.ref l), x5, x6, x7, x8, x9, x10, x11] ∧
          Many (He.ga K "Disk") H' d l 3 p fp (1 + c) D ∧ Tri D S ∧ ∀ i, i < 3 → (D i).wait.length ≤ j) ?_ ?_ ?_⟩
        · exact ⟨fp, D, _, _, _, _, _, _, _, _, _, rfl, w.draw r5 m5, tr0, wl0⟩
        · rintro j σ H6 hj ⟨fp, D, S, y2, y5, y6, y7, y8, y9, y10, y11, rfl, w, tr, wl⟩
          walk_at "go"
          refine ⟨d, _, rfl, by omega, by omega, w.r, fun cell H7 hcell r7 m7 => ?_⟩
          have w := w.draw r7 m7
          walk_at "go"
          refine ⟨d, 999, rfl, by decide, by decide, w.r, fun val H8 hval r8 m8 => ?_⟩
          have w := w.draw r8 m8
          walk_at "go"
          refine ⟨_, rfl, ⟨_, SqL.of w.ls⟩, for_list (K := K) (a := l) (xs := (List.range 3).map fun i => .ref (p i)) (fun i σ H' => ∃ (fp : Nat → List Addr) (D' : Nat → DiskS) (x8 : Option V), σ = [some (.ref a), some (.ref d), y2, some (.int ((1 + c : Nat) : Int)), some (.ref l), some (.int (0 + (j : Int))), some (.int (cell : Int)), some (.int (val : Int)), x8, y9, y10, y11] ∧
            Many (He.ga K "Disk") H' d l 3 p fp (1 + c) D' ∧ ∀ b, b < 3 → D' b = if b < i then (D b).write cell (.int (val : Int)) else D b) ?_ ?_ ?_ ?_⟩
          · exact ⟨fp, D, _, rfl, w, fun b _ => (if_neg (Nat.not_lt_zero _)).symm⟩
          · rintro i σ H' _ ⟨_, _, _, _, w, _⟩
            exact SqL.of w.ls
          · rintro i y σ H9 hi' ⟨fp, D', x8, rfl, w, hD'⟩
            have hi3 : i < 3 := by
              have := (List.getElem?_eq_some_iff.mp hi').1
              simpa using this
            have ey : y = .ref (p i) := by
              rw [List.getElem?_map, List.getElem?_range hi3] at hi'
              exact (Option.some.inj hi').symm
            subst ey
            have e1 : D' i = D i := by
              rw [hD' i hi3, if_neg (Nat.lt_irrefl _)]
            have dpi := w.dp i hi3
            rw [e1] at dpi
            walk_at "go"
            refine ex_meth dpi (fun _ _ _ _ => rfl) ?_
            walk_at "go"
            refine ⟨p i, fp i, 1 + c, cell, .int (val : Int), D i, rfl, dpi, by omega, by have := wl i hi3; omega, fun H10 hD mv => ?_⟩
            refine ⟨_, _, _, rfl, w.put hi3 hD mv, fun b hb => ?_⟩
            by_cases e : b = i
            · subst e
              rw [fset_same, if_pos (Nat.lt_succ_self _)]
            · rw [fset_ne e, hD' b hb]
              by_cases hbi : b < i
              · rw [if_pos hbi, if_pos (by omega)]
              · rw [if_neg hbi, if_neg (by omega)]
          · rintro σ H9 ⟨fp, D', x8, rfl, w, hD'⟩
            have hD' : ∀ b, b < 3 → D' b = (D b).write cell (.int (val : Int)) := fun b hb => by
              rw [hD' b hb]
              exact if_pos (by simpa using hb)
            have eS : (S.map V.int).set cell (V.int (val : Int)) = (S.set cell (val : Int)).map V.int := by rw [List.map_set]
            have l0 : atI ((List.range 3).map fun i => V.ref (p i)) 0 = some (.ref (p 0)) := at0
            have l1 : atI ((List.range 3).map fun i => V.ref (p i)) 1 = some (.ref (p 1)) := at1
            have l2 : atI ((List.range 3).map fun i => V.ref (p i)) 2 = some (.ref (p 2)) := at2
            walk_at "go"
            refine st_ixL w.ls l0 ?_
            have d0 := w.dp 0 (by decide)
            refine ex_meth d0 (fun _ _ _ _ => rfl) ?_
            refine ⟨p 0, fp 0, 1 + c, D' 0, rfl, d0, fun H10 fp0 hD mv => ?_⟩
            have w := w.put (by decide) hD mv
            have e0 : fset D' 0 (D' 0).sync 1 = D' 1 := fset_ne (by decide)
            have e0' : fset D' 0 (D' 0).sync 2 = D' 2 := fset_ne (by decide)
            have e0'' : fset D' 0 (D' 0).sync 0 = (D' 0).sync := fset_same
            have q1 := hD' 1 (by decide)
            have q2 := hD' 2 (by decide)
            have q0 := hD' 0 (by decide)
            have tr1 : Tri (fset D' 0 (D' 0).sync) (S.set cell (val : Int)) := by
              refine ⟨?_, ?_, ?_, ?_, ?_, ?_, ?_⟩
              · rw [e0'', q0, ← eS, ← tr.a0]; rfl
              · rw [e0, q1, ← eS, ← tr.a1]; rfl
              · rw [e0', q2, ← eS, ← tr.a2]; rfl
              · rw [e0'', q0, ← eS, ← tr.a0]; rfl
              · rw [e0, q1]; exact tr.b1
              · rw [e0, q1]; exact tr.f1.write
              · rw [e0', q2]; exact tr.f2.write
            have wl1 : ∀ i, i < 3 → (fset D' 0 (D' 0).sync i).wait.length ≤ j + 1 := fun i hi => by
              by_cases e : i = 0
              · subst e
                rw [e0'']
                exact Nat.zero_le _
              · rw [fset_ne e, hD' i hi]
                show ((D i).wait ++ [(cell, V.int (val : Int))]).length ≤ j + 1
                rw [List.length_append]
                exact Nat.succ_le_succ (wl i hi)
            refine st_cut (fun σ' H' => ∃ (fp : Nat → List Addr) (D : Nat → DiskS) (S : List Int), σ' = [some (.ref a), some (.ref d), y2, some (.int ((1 + c : Nat) : Int)), some (.ref l), some (.int (0 + (j : Int))), some (.int (cell : Int)), some (.int (val : Int)), x8, y9, y10, y11] ∧
              Many (He.ga K "Disk") H' d l 3 p fp (1 + c) D ∧ Tri D S ∧ ∀ i, i < 3 → (D i).wait.length ≤ j + 1) ?_ ?_
            · walk_at "go"
              refine ⟨d, 3, rfl, by decide, by decide, w.r, fun coin H11 hcoin r11 m11 => ?_⟩
              have w := w.draw r11 m11
              walk_at "go"
              refine if2 (fun e => ?_) (fun e => ?_)
              · walk_at "go"
                refine st_ixL w.ls l1 ?_
                have d1 := w.dp 1 (by decide)
                refine ex_meth d1 (fun _ _ _ _ => rfl) ?_
                refine ⟨p 1, _, 1 + c, _, rfl, d1, fun H12 fp1 hD mv => ?_⟩
                refine ⟨_, _, S.set cell (val : Int), rfl, w.put (by decide) hD mv, ⟨?_, ?_, ?_, ?_, ?_, ?_, ?_⟩, fun i hi => ?_⟩
                · rw [fset_ne (by decide)]; exact tr1.a0
                · rw [fset_same]; exact tr1.a1
                · rw [fset_ne (by decide)]; exact tr1.a2
                · rw [fset_ne (by decide)]; exact tr1.b0
                · rw [fset_same]; exact ⟨_, tr1.a1⟩
                · rw [fset_same]; exact DiskS.Full.sync
                · rw [fset_ne (by decide)]; exact tr1.f2
                · by_cases e : i = 1
                  · subst e
                    rw [fset_same]
                    exact Nat.zero_le _
                  · rw [fset_ne e]
                    exact wl1 i hi
              · walk_at "go"
                exact ⟨_, _, _, rfl, w, tr1, wl1⟩
            · rintro σ' H11 ⟨fp, D, S, rfl, w, tr, wl⟩
              walk_at "go"
              refine ⟨_, rfl, ⟨_, SqL.of w.ls⟩, fun cl hcl => ?_⟩
              refine lc_list (K := K) (a := l) (xs := (List.range 3).map fun i => .ref (p i)) (fun i H' => Same H11 H' ∧ ∃ ts : List Addr, ts.length = i ∧ H' cl = some (.lst (ts.map V.ref)) ∧ ∀ t ∈ ts, H' t = some (.tup (S.map V.int))) ?_ ?_ ?_ ?_
              · exact ⟨same_upd hcl, [], rfl, upd_same, fun _ h => nomatch h⟩
              · rintro i H' _ ⟨s, _⟩
                exact SqL.of (s _ _ w.ls)
              · rintro i y H12 hi' ⟨s12, ts, tl, hcl2, hts⟩
                have hi3 : i < 3 := by
                  have := (List.getElem?_eq_some_iff.mp hi').1
                  simpa using this
                have ey : y = .ref (p i) := by
                  rw [List.getElem?_map, List.getElem?_range hi3] at hi'
                  exact (Option.some.inj hi').symm
                subst ey
                have dpi := (w.dp i hi3).same s12
                have esh : (D i).shown = S.map V.int := by
                  match i, hi3 with
                  | 0, _ => exact tr.a0
                  | 1, _ => exact tr.a1
                  | 2, _ => exact tr.a2
                walk_at "go"
                refine ⟨rfl, ?_⟩
                walk_at "go"
                refine ifT rfl ?_
                walk_at "go"
                refine ex_prop dpi ?_
                refine ⟨p i, _, _, _, rfl, dpi, fun t H13 ht s13 h13 => ?_⟩
                have nct : t ≠ cl := Ne.symm (ne_fresh ht hcl2)
                refine ⟨_, s13 _ _ hcl2, small (by rw [List.length_map]; omega), same_mut (s12.trans s13) hcl, ts ++ [t], by rw [List.length_append, tl]; rfl, by rw [upd_same, List.map_append]; rfl, fun t' ht' => ?_⟩
                rcases List.mem_append.mp ht' with z | z
                · have e := s13 _ _ (hts t' z)
                  rw [upd_ne (ne_tup_lst e (s13 _ _ hcl2))]
                  exact e
                · rw [List.mem_singleton.mp z, upd_ne nct, ← esh]
                  exact h13
              · rintro H12 ⟨s12, ts, tl, hcl2, hts⟩
                have tl : ts.length = 3 := by simpa using tl
                have w := w.same s12
                refine ⟨cl, ts.map fun t => (t, S), rfl, SqL.of (by rw [hcl2, List.map_map]; rfl), fun q hq => ?_, by rw [List.length_map, tl]; decide, fun L nd h1 h2 => ?_⟩
                · obtain ⟨t, ht, rfl⟩ := List.mem_map.mp hq
                  exact SqT.of (hts t ht)
                · have eL : L.length = 1 := one_len (S := S) (ks := ts.map fun t => (t, S)) (fun e => by have := congrArg List.length e; rw [List.length_map, tl] at this; cases this) (fun q hq => by obtain ⟨t, _, rfl⟩ := List.mem_map.mp hq; rfl) nd h1 h2
                  walk_at "go"
                  refine ifF (by rw [eL]; rfl) ?_
                  walk_at "go"
                  refine st_ixL w.ls l0 ?_
                  have d0 := w.dp 0 (by decide)
                  refine ex_prop d0 ?_
                  refine ⟨p 0, _, _, _, rfl, d0, fun t1 H13 ht1 s13 h13 => ?_⟩
                  have w := w.same s13
                  rw [tr.b0] at h13
                  walk_at "go"
                  refine st_ixL w.ls l2 ?_
                  have d2 := w.dp 2 (by decide)
                  refine ex_prop d2 ?_
                  refine ⟨p 2, _, _, _, rfl, d2, fun t2 H14 ht2 s14 h14 => ?_⟩
                  have w := w.same s14
                  rw [tr.a2] at h14
                  refine neD_same (s14 _ _ h13) h14 fl_ints ?_
                  walk_at "go"
                  refine ifF rfl ?_
                  walk_at "go"
                  exact ⟨fp, D, S, _, _, _, _, _, _, _, _, rfl, w, tr, wl⟩
        · rintro σ H6 ⟨fp, D, S, y2, y5, y6, y7, y8, y9, y10, y11, rfl, w, tr, wl⟩
          have hturns : ∀ i, i < 3 → (D i).wait.length ≤ 20 := fun i hi => by
            have := wl i hi
            omega
          have l0 : atI ((List.range 3).map fun i => V.ref (p i)) 0 = some (.ref (p 0)) := at0
          have l1 : atI ((List.range 3).map fun i => V.ref (p i)) 1 = some (.ref (p 1)) := at1
          have l2 : atI ((List.range 3).map fun i => V.ref (p i)) 2 = some (.ref (p 2)) := at2
          walk_at "go"
          refine st_ixL w.ls l2 ?_
          have d2 := w.dp 2 (by decide)
          refine ex_prop d2 ?_
          refine ⟨p 2, _, _, _, rfl, d2, fun t1 ws H7 ht1 s7 h7 hW => ?_⟩
          have w := w.same s7
          walk_at "go"
          refine st_ixL w.ls l2 ?_
          have d2 := w.dp 2 (by decide)
          refine ex_meth d2 (fun _ _ _ _ => rfl) ?_
          walk_at "go"
          have h2w := hturns 2 (by decide)
          refine ⟨RgOk.of_le (by omega) (by rw [hW.len]; omega) (by omega) (by omega), fun t2 ht2 => ?_⟩
          have w := w.same (same_upd (o := .tup (rgV 0 (ws.length : Int))) ht2)
          have d2 := w.dp 2 (by decide)
          walk_at "go"
          refine ⟨p 2, t2, _, 1 + c, _, List.range (D 2).wait.length, rfl, d2, SqT.of ?_, List.pairwise_lt_range, fun k hk => List.mem_range.mp hk, by rw [List.length_range]; omega, fun H8 fp2 hD mv => ?_⟩
          · rw [upd_same, hW.len, rgV_nat]
          have w := w.put (by decide) hD mv
          walk_at "go"
          refine st_ixL w.ls l1 ?_
          have d1 := w.dp 1 (by decide)
          refine ex_prop d1 ?_
          refine ⟨p 1, _, _, _, rfl, d1, fun t3 H9 ht3 s9 h9 => ?_⟩
          have w := w.same s9
          rw [fset_ne (by decide)] at h9
          walk_at "go"
          refine st_ixL w.ls l1 ?_
          have d1 := w.dp 1 (by decide)
          refine ex_meth d1 (fun _ _ _ _ => rfl) ?_
          walk_at "go"
          refine ⟨of_decide_eq_true rfl, fun t4 ht4 => ?_⟩
          have w := w.same (same_upd (o := .tup []) ht4)
          have h9 := same_upd (o := .tup []) ht4 _ _ h9
          have d1 := w.dp 1 (by decide)
          walk_at "go"
          refine ⟨p 1, t4, _, 1 + c, _, [], rfl, d1, SqT.of upd_same, .nil, (fun _ h => nomatch h), Nat.zero_le _, fun H10 fp1 hD mv => ?_⟩
          have w := w.put (by decide) hD mv
          have h9 := mv.tup h9
          obtain ⟨T, hT⟩ := tr.b1
          walk_at "go"
          refine st_ixL w.ls l2 ?_
          have d2 := w.dp 2 (by decide)
          refine ex_prop d2 ?_
          refine ⟨p 2, _, _, _, rfl, d2, fun t5 H11 ht5 s11 h11 => ?_⟩
          have w := w.same s11
          have h9 := s11 _ _ h9
          rw [fset_ne (by decide), fset_same] at h11
          have h11 : H11 t5 = some (.tup (S.map V.int)) := by
            rw [h11, ← tr.a2, ← show (D 2).after (List.range (D 2).wait.length) = (D 2).shown from tr.f2]
            rfl
          walk_at "go"
          refine st_ixL w.ls l0 ?_
          have d0 := w.dp 0 (by decide)
          refine ex_prop d0 ?_
          refine ⟨p 0, _, _, _, rfl, d0, fun t6 H12 ht6 s12 h12 => ?_⟩
          have w := w.same s12
          have h9 := s12 _ _ h9
          rw [fset_ne (by decide), fset_ne (by decide), tr.b0] at h12
          refine neD_same (s12 _ _ h11) h12 fl_ints ?_
          walk_at "go"
          refine ifF rfl ?_
          walk_at "go"
          refine st_ixL w.ls l1 ?_
          have d1 := w.dp 1 (by decide)
          refine ex_prop d1 ?_
          refine ⟨p 1, _, _, _, rfl, d1, fun t7 H13 ht7 s13 h13 => ?_⟩
          have w := w.same s13
          have h9 := s13 _ _ h9
          rw [fset_same, fset_ne (by decide)] at h13
          have h13 : H13 t7 = some (.tup (T.map V.int)) := by
            rw [h13, ← hT]
            rfl
          rw [hT] at h9
          walk_at "go"
          refine neD_same h13 h9 fl_ints ?_
          walk_at "go"
          refine ifF rfl ?_
          walk_at "go"
          refine st_ixL w.ls l2 ?_
          have d2 := w.dp 2 (by decide)
          refine ex_prop d2 ?_
          refine ⟨p 2, _, _, _, rfl, d2, fun t8 ws8 H14 ht8 s14 h14 hW8 => ?_⟩
          have w := w.same s14
          rw [fset_ne (by decide), fset_same] at hW8
          have e8 : ws8 = [] := List.eq_nil_of_length_eq_zero hW8.len
          rw [e8] at h14
          walk_at "go"
          refine ⟨of_decide_eq_true rfl, fun t9 ht9 => ?_⟩
          have w := w.same (same_upd (o := .lst []) ht9)
          refine neD_nil (by rw [upd_ne (ne_fresh ht9 h14)]; exact h14) upd_same ?_
          walk_at "go"
          refine ifF rfl ?_
          walk_at "go"
          exact ⟨_, _, _, _, _, _, _, _, _, _, rfl, w.r⟩
    · rintro σ H2 ⟨x2, x3, x4, x5, x6, x7, x8, x9, x10, x11, rfl, r2⟩
      walk_at "go"
      exact k _

end KBL
namespace KBL
open PySem PySem.Spec PyProof.Rows L2 KB
abbrev RR : PySem.W.OpenRow := PySem.W.OpenLaw.row PySem.Challenge.rw_keepbefore_k04_whole_disks_synced_at_any
abbrev hk : PySem.W.Hook := KB.hookX 6 fa fn
def ob (s : PySem.W.SharedT) : KB.AlX := KB.obsXG 6 fa fn (HandSHeadRun.getT s)
theorem ob_eq (s : PySem.W.SharedT) : ob s = hk.obs s.abs := KB.obsXG_eq (HandSHeadRun.getT_eq s)
def loose : List PySem.Str := (["_wall", "__name__", "PairError", "InvalidSize", "InvalidCell", "InvalidKept", "is_int", "is_int_in", "are_ascending", "MAX_CELLS", "Disk", "_law_random", "_law_below"] : List PySem.Str)
set_option maxHeartbeats 0 in
theorem run (w : World) : HandSHeadRun.RunEq RR (PySem.W.view RR.prog [16]) hk ob 6000 loose w := by
  intro os
  kernel_rfl
end KBL
open PySem PySem.W PySem.Calls PyProof.Rows
set_option maxRecDepth 100000 in
set_option maxHeartbeats 0 in
theorem PySem.Challenge.cw_keepbefore_k04_whole_disks_synced_at_any_holds : PySem.Challenge.rw_keepbefore_k04_whole_disks_synced_at_any.Holds := by
  w_on; o_law
  refine HandSHeadRun.head_any (r := OpenLaw.row PySem.Challenge.rw_keepbefore_k04_whole_disks_synced_at_any) (q := view (OpenLaw.row PySem.Challenge.rw_keepbefore_k04_whole_disks_synced_at_any).prog [16]) (H := KBL.hk) (ob := KBL.ob) (M := 6000) (loose := KBL.loose) (d := HandSHeadRun.topDef (OpenLaw.row PySem.Challenge.rw_keepbefore_k04_whole_disks_synced_at_any).prog 16) (kwd := []) KBL.ob_eq
    (by kernel_rfl) (fun s => by kernel_rfl) KBL.run (by kernel_rfl) (by kernel_rfl) (by kernel_rfl) (by rfl) (by first | assumption | decide +kernel) (by decide +kernel) ⟨rfl, rfl, rfl, rfl, rfl, by decide +kernel⟩ ?hw ?hc
  case hw => w_witness2
  case hc =>
    refine L2.walk_ofE (l := PySem.Challenge.rw_keepbefore_k04_whole_disks_synced_at_any) (n := 63) (k := 14) (x := "_law_script") (CX := L2.CX0) rfl (by decide) (by kernel_rfl) ⟨rfl, by decide, by decide⟩ ?F (fun _ _ _ _ z => z)
    intro w mg fa h Y G hmg0
    obtain ⟨K, KX, c⟩ := Y
    have hmg : mg ("law" : PySem.Str) = some (.ref fa) := by
      have e : (HandSHeadRun.topDef (OpenLaw.row PySem.Challenge.rw_keepbefore_k04_whole_disks_synced_at_any).prog 16).name = ("law" : PySem.Str) := by kernel_rfl
      rw [← e]
      exact hmg0
    have M : KBL.Md K mg := ⟨⟨h, KX, G⟩, c⟩
    have e := hmg.symm.trans M.g_law
    cases e
    obtain ⟨fd, hF, hb⟩ := KBL.ok_law (P := (PySem.Challenge.rw_keepbefore_k04_whole_disks_synced_at_any).prog) (w := w) M
    exact ⟨K, fd, KBL.sp_law K, KX, fun s u => hb s [u] rfl, fun H a ns hl _ hS => ⟨a, ns, rfl, hS, hl, fun _ => rfl⟩, fun base _ _ => hF base⟩

