import PyProof.Rows.All
import HandS.ForMost
import HandS.Exc
import HandS.Lambda
import HandS.ExcCtx
import Wide.All
import OpenK.AllK
import Wide.FinOn
import HandS.ExcOwn
import HandS.WordsExc
import HandS.TryOnly
import HandS.TupAny
import HandS.TupMul
import HandS.IsInst
import HandS.Style
import HandS.Zip
import HandS.Deep
import HandS.SortInts
import KE.GoesMore
import KE.GoesZip
import HandS.Small
import HandS.Property
import KE.KOpsOwn
import OpenK.KMeth
import OpenK.KOps
import HandS.Strs
import HandS.ExcInit
import HandS.Nested
import KE.KSuper
import KE.KExcSuper
import HandS.HeadHook1
import HandS.ExcField
import HandS.ExcIs
import HandS.ClsMeth
import KE.KCallOwn
import PyProof.FactsLen
import HandS.HotCalls
import HandS.Comp
import HandS.Defaults
import HandS.HeadHook4
import HandS.HeadNt
import HandS.Head0
import HandS.Head1
import HandS.Head2
import HandS.HeadEnd
import HandS.HeadHook2
import PyProof.ExcBaseAll.ValueError
import HandS.HeadWalk
import KE.KStateDown
import PySem.Challenge.RW_facebilled_k25_errors_of_programs_and_ho
set_option Elab.async false
set_option linter.all false
set_option autoImplicit false
set_option maxRecDepth 100000
set_option maxHeartbeats 0
/-! Closures: objects that are known while others run; the call of a lambda whose cells are known. -/
namespace Mi
open PySem PySem.Spec PyProof.Rows L2
/-! ### an overlay of known objects -/
abbrev TT0 : HO := .ext fun _ => True
def ov (O : List (Addr × Obj)) (H : Hp) : Hp := fun b => match O.lookup b with
  | some o => some (.frz o TT0)
  | none => H b
section
variable {P : Program} {w : World} {O : List (Addr × Obj)} {H H' : Hp} {h h' B : Heap} {fs : List Addr} {b : Addr} {o : Obj} {u : HO}
theorem ov_at (e : O.lookup b = some o) : ov O H b = some (.frz o TT0) := by
  unfold ov
  rw [e]
theorem ov_no (e : O.lookup b = none) : ov O H b = H b := by
  unfold ov
  rw [e]
theorem ov_none (e : ov O H b = none) : O.lookup b = none ∧ H b = none := by
  cases q : O.lookup b with
  | some o =>
    rw [ov_at q] at e
    cases e
  | none => exact ⟨rfl, by rw [ov_no q] at e; exact e⟩
/-- the overlay's objects stand there, untracked, and are no frames -/
structure OvOk (O : List (Addr × Obj)) (H : Hp) (h : Heap) (fs : List Addr) : Prop where
  at_ : ∀ b o, O.lookup b = some o → h.get? b = some o
  no : ∀ b o, O.lookup b = some o → H b = none
  nf : ∀ b o, O.lookup b = some o → b ∉ fs
theorem OvOk.ext (k : ∀ b o, O.lookup b = some o → H b = none) (e : H b = some u) : ov O H b = some u := by
  cases q : O.lookup b with
  | some o =>
    rw [k b o q] at e
    cases e
  | none =>
    rw [ov_no q]
    exact e
theorem ov_own {a : Addr} (e : ov O H b = some (.own a)) : H b = some (.own a) := by
  cases q : O.lookup b with
  | some o =>
    rw [ov_at q] at e
    cases e
  | none =>
    rw [ov_no q] at e
    exact e
theorem ov_tup {xs : List V} (e : ov O H b = some (.tup xs)) : H b = some (.tup xs) := by
  cases q : O.lookup b with
  | some o =>
    rw [ov_at q] at e
    cases e
  | none =>
    rw [ov_no q] at e
    exact e
theorem hok_up (x : HOk P w H h) (ha : ∀ b o, O.lookup b = some o → h.get? b = some o) (hn : ∀ b o, O.lookup b = some o → H b = none) : HOk P w (ov O H) h := fun b u e => by
  cases q : O.lookup b with
  | some o =>
    rw [ov_at q] at e
    cases e
    exact ⟨ha b o q, True.intro, ⟨o, ha b o q⟩, fun _ _ _ _ => True.intro⟩
  | none =>
    rw [ov_no q] at e
    exact (x b u e).stay (fun _ _ _ q => q) (fun _ q => OvOk.ext hn q) fun _ _ q => OvOk.ext hn q
theorem hok_dn (x : HOk P w (ov O H) h) (hn : ∀ b o, O.lookup b = some o → H b = none) : HOk P w H h := fun b u e =>
  (x b u (OvOk.ext hn e)).stay (fun _ _ _ q => q) (fun _ q => ov_own q) fun _ _ q => ov_tup q
theorem OvOk.later (k : OvOk O H h fs) (un : Un fs [] H H' h h') : OvOk O H' h' fs :=
  ⟨fun b o e => un.keep b o (k.at_ b o e) (k.no b o e) (k.nf b o e) (by simp), fun b o e => un.free b o (k.at_ b o e) (k.no b o e) (by simp), k.nf⟩
theorem un_up (k : OvOk O H h fs) (un : Un fs [] H H' h h') : Un fs [] (ov O H) (ov O H') h h' where
  keep := fun b ob e n nf nx => un.keep b ob e (ov_none n).2 nf nx
  slot := fun b ob e n f nx => un.slot b ob e (ov_none n).2 f nx
  free := fun b ob e n nx => by
    obtain ⟨n1, n2⟩ := ov_none n
    rw [ov_no n1]
    exact un.free b ob e n2 nx
  there := un.there
  tups := fun b xs e => OvOk.ext (k.later un).no (un.tups b xs (ov_tup e))
  frzs := fun b ob xs e => by
    cases q : O.lookup b with
    | some o =>
      rw [ov_at q] at e ⊢
      exact e
    | none =>
      rw [ov_no q] at e ⊢
      exact un.frzs b ob xs e
  tbls := fun b ps e => by
    cases q : O.lookup b with
    | some o =>
      rw [ov_at q] at e
      cases e
    | none =>
      rw [ov_no q] at e ⊢
      exact un.tbls b ps e
/-- the overlay taken off -/
def un_ov (O : List (Addr × Obj)) (H : Hp) : Hp := fun b => match O.lookup b with
  | some _ => none
  | none => H b
theorem uov_at (e : O.lookup b = some o) : un_ov O H b = none := by
  unfold un_ov
  rw [e]
theorem uov_no (e : O.lookup b = none) : un_ov O H b = H b := by
  unfold un_ov
  rw [e]
/-- behind a run over an overlay, the overlay is still there -/
theorem ov_still (k : OvOk O H h fs) (un : Un fs [] (ov O H) H' h h') : ov O (un_ov O H') = H' := funext fun b => by
  cases q : O.lookup b with
  | some o =>
    rw [ov_at q]
    exact (un.frzs b o TT0 (ov_at q)).symm
  | none => rw [ov_no q, uov_no q]
theorem un_dn (k : OvOk O H h fs) (un : Un fs [] (ov O H) H' h h') (hok : HOk P w H' h') : Un fs [] H (un_ov O H') h h' where
  keep := fun b ob e n nf nx => by
    cases q : O.lookup b with
    | some o =>
      have e1 := k.at_ b o q
      rw [e] at e1
      cases e1
      exact (hok b _ (un.frzs b ob TT0 (ov_at q))).1
    | none => exact un.keep b ob e (by rw [ov_no q]; exact n) nf nx
  slot := fun b ob e n f nx => by
    cases q : O.lookup b with
    | some o => exact absurd f (k.nf b o q)
    | none => exact un.slot b ob e (by rw [ov_no q]; exact n) f nx
  free := fun b ob e n nx => by
    cases q : O.lookup b with
    | some o => exact uov_at q
    | none =>
      rw [uov_no q]
      exact un.free b ob e (by rw [ov_no q]; exact n) nx
  there := un.there
  tups := fun b xs e => by
    cases q : O.lookup b with
    | some o =>
      rw [k.no b o q] at e
      cases e
    | none =>
      rw [uov_no q]
      exact un.tups b xs (by rw [ov_no q]; exact e)
  frzs := fun b ob xs e => by
    cases q : O.lookup b with
    | some o =>
      rw [k.no b o q] at e
      cases e
    | none =>
      rw [uov_no q]
      exact un.frzs b ob xs (by rw [ov_no q]; exact e)
  tbls := fun b ps e => by
    cases q : O.lookup b with
    | some o =>
      rw [k.no b o q] at e
      cases e
    | none =>
      rw [uov_no q]
      exact un.tbls b ps (by rw [ov_no q]; exact e)
theorem hok_un (x : HOk P w H' h') (hst : ov O (un_ov O H') = H') : HOk P w (un_ov O H') h' := by
  rw [← hst] at x
  exact hok_dn x fun b o q => uov_at q
/-! the same where an exception flies -/
theorem UB.later (k : OvOk O H h fs) (un : UB fs H H' h B h') : (∀ b o, O.lookup b = some o → B.get? b = some o) ∧ ∀ b o, O.lookup b = some o → H' b = none :=
  ⟨fun b o e => un.keep b o (k.at_ b o e) (k.no b o e) (k.nf b o e), fun b o e => un.free b o (k.at_ b o e) (k.no b o e)⟩
theorem ub_up (k : OvOk O H h fs) (un : UB fs H H' h B h') : UB fs (ov O H) (ov O H') h B h' where
  keep := fun b ob e n nf => un.keep b ob e (ov_none n).2 nf
  slot := un.slot
  free := fun b ob e n => by
    obtain ⟨n1, n2⟩ := ov_none n
    rw [ov_no n1]
    exact un.free b ob e n2
  there := un.there
  tups := fun b xs e => OvOk.ext (UB.later k un).2 (un.tups b xs (ov_tup e))
  frzs := fun b ob xs e => by
    cases q : O.lookup b with
    | some o =>
      rw [ov_at q] at e ⊢
      exact e
    | none =>
      rw [ov_no q] at e ⊢
      exact un.frzs b ob xs e
  tbls := fun b ps e => by
    cases q : O.lookup b with
    | some o =>
      rw [ov_at q] at e
      cases e
    | none =>
      rw [ov_no q] at e ⊢
      exact un.tbls b ps e
theorem ub_still (k : OvOk O H h fs) (un : UB fs (ov O H) H' h B h') : ov O (un_ov O H') = H' := funext fun b => by
  cases q : O.lookup b with
  | some o =>
    rw [ov_at q]
    exact (un.frzs b o TT0 (ov_at q)).symm
  | none => rw [ov_no q, uov_no q]
theorem ub_dn (k : OvOk O H h fs) (un : UB fs (ov O H) H' h B h') (hok : HOk P w H' B) : UB fs H (un_ov O H') h B h' where
  keep := fun b ob e n nf => by
    cases q : O.lookup b with
    | some o =>
      have e1 := k.at_ b o q
      rw [e] at e1
      cases e1
      exact (hok b _ (un.frzs b ob TT0 (ov_at q))).1
    | none => exact un.keep b ob e (by rw [ov_no q]; exact n) nf
  slot := un.slot
  free := fun b ob e n => by
    cases q : O.lookup b with
    | some o => exact uov_at q
    | none =>
      rw [uov_no q]
      exact un.free b ob e (by rw [ov_no q]; exact n)
  there := un.there
  tups := fun b xs e => by
    cases q : O.lookup b with
    | some o =>
      rw [k.no b o q] at e
      cases e
    | none =>
      rw [uov_no q]
      exact un.tups b xs (by rw [ov_no q]; exact e)
  frzs := fun b ob xs e => by
    cases q : O.lookup b with
    | some o =>
      rw [k.no b o q] at e
      cases e
    | none =>
      rw [uov_no q]
      exact un.frzs b ob xs (by rw [ov_no q]; exact e)
  tbls := fun b ps e => by
    cases q : O.lookup b with
    | some o =>
      rw [k.no b o q] at e
      cases e
    | none =>
      rw [uov_no q]
      exact un.tbls b ps (by rw [ov_no q]; exact e)
end
/-! ### a call's end under an overlay -/
section
variable {P : Program} {w : World} {O : List (Addr × Obj)} {H : Hp} {outer : List Env} {s s' : Shared} {Q : VK} {E : XK} {r : Result} {u : Value}
abbrev NoO (O : List (Addr × Obj)) (H : Hp) : Prop := ∀ b o, O.lookup b = some o → H b = none
theorem ce_up (k : OvOk O H s.heap (frs outer)) (h : CE outer P w H s (fun v H' => NoO O H' → Q v (ov O H')) u s') : CE outer P w (ov O H) s Q u s' := by
  obtain ⟨v, H', os, bare, un, hok, rv, q⟩ := h
  exact ⟨v, ov O H', os, bare, un_up k un, hok_up hok (k.later un).at_ (k.later un).no, rv, q (k.later un).no⟩
theorem ce_dn (k : OvOk O H s.heap (frs outer)) (h : CE outer P w (ov O H) s Q u s') : CE outer P w H s (fun v H' => NoO O H' ∧ Q v (ov O H')) u s' := by
  obtain ⟨v, H', os, bare, un, hok, rv, q⟩ := h
  have st := ov_still k un
  exact ⟨v, un_ov O H', os, bare, un_dn k un hok, hok_un hok st, rv, ⟨fun b o e => uov_at e, by rw [st]; exact q⟩⟩
theorem cx_up (k : OvOk O H s.heap (frs outer)) (h : L2N.CX P w outer H s (fun c d H' => NoO O H' → E c d (ov O H')) u s') : L2N.CX P w outer (ov O H) s E u s' := by
  obtain ⟨a, B, H', cls, d, e, fl, hok, ub, na, os, bare, q⟩ := h
  obtain ⟨l1, l2⟩ := UB.later k ub
  refine ⟨a, B, ov O H', cls, d, e, fl, hok_up hok l1 l2, ub_up k ub, ?_, os, bare, q l2⟩
  cases z : O.lookup a with
  | some o =>
    have e1 := l1 a o z
    rw [fl.2.1] at e1
    cases e1
  | none =>
    rw [ov_no z]
    exact na
theorem cx_dn (k : OvOk O H s.heap (frs outer)) (h : L2N.CX P w outer (ov O H) s E u s') : L2N.CX P w outer H s (fun c d H' => NoO O H' ∧ E c d (ov O H')) u s' := by
  obtain ⟨a, B, H', cls, d, e, fl, hok, ub, na, os, bare, q⟩ := h
  have st := ub_still k ub
  refine ⟨a, B, un_ov O H', cls, d, e, fl, hok_un hok st, ub_dn k ub hok, ?_, os, bare, ⟨fun b o e => uov_at e, by rw [st]; exact q⟩⟩
  cases z : O.lookup a with
  | some o => exact uov_at z
  | none =>
    rw [uov_no z]
    exact na
theorem cr_up (k : OvOk O H s.heap (frs outer)) (h : CR (L2N.CX P w) outer P w H s (fun v H' => NoO O H' → Q v (ov O H')) (fun c d H' => NoO O H' → E c d (ov O H')) r s') : CR (L2N.CX P w) outer P w (ov O H) s Q E r s' := by
  cases r with
  | error e => exact cx_up k h
  | ok f =>
    cases f with
    | ret u => exact ce_up k h
    | _ => exact h
theorem cr_dn (k : OvOk O H s.heap (frs outer)) (h : CR (L2N.CX P w) outer P w (ov O H) s Q E r s') : CR (L2N.CX P w) outer P w H s (fun v H' => NoO O H' ∧ Q v (ov O H')) (fun c d H' => NoO O H' ∧ E c d (ov O H')) r s' := by
  cases r with
  | error e => exact cx_dn k h
  | ok f =>
    cases f with
    | ret u => exact ce_dn k h
    | _ => exact h
end
theorem env0_dn {P : Program} {w : World} {K : PySem.W.Frag} {mg : Str → Option Value} {base : Heap} {A : Around} {outer : List Env} {s : Shared} {O : List (Addr × Obj)} {H : Hp} (e : Env0 P w K mg base A outer s (ov O H)) (hn : ∀ b o, O.lookup b = some o → H b = none) : Env0 P w K mg base A outer s H :=
  ⟨e.frames, e.mod, fun b o q => ⟨(e.bs b o q).1, (ov_none (e.bs b o q).2).2⟩, e.bsz, e.funs, fun b hb => (ov_none (e.frf b hb)).2, hok_dn e.hok hn, e.bare⟩
theorem env0_up {P : Program} {w : World} {K : PySem.W.Frag} {mg : Str → Option Value} {base : Heap} {A : Around} {outer : List Env} {s : Shared} {O : List (Addr × Obj)} {H : Hp} (e : Env0 P w K mg base A outer s H) (k : OvOk O H s.heap (frs outer)) (hb : ∀ b o, base.get? b = some o → O.lookup b = none) : Env0 P w K mg base A outer s (ov O H) :=
  ⟨e.frames, e.mod, fun b o q => ⟨(e.bs b o q).1, by rw [ov_no (hb b o q)]; exact (e.bs b o q).2⟩, e.bsz, e.funs, fun b hb => by
    cases z : O.lookup b with
    | some o => exact absurd hb (k.nf b o z)
    | none =>
      rw [ov_no z]
      exact e.frf b hb, hok_up e.hok k.at_ k.no, e.bare⟩
/-! ### lambdas -/
structure Lam where
  q : Str
  pa : Arguments
  ps : List Str
  body : Expr
  scope : Scope
  /-- its names: the parameters, then the captured ones -/
  N : List Str
abbrev Lam.obj (L : Lam) (cl : List (Str × Addr)) (pm : Value) (c' : Addr) (ctv : Value) : Obj := PySem.W.kla_obj "<lambda>" L.q L.pa L.body L.scope cl pm c' ctv
structure LamW (L : Lam) : Prop where
  kind : L.scope.kind = .function
  co : L.scope.isCoroutine = false
  gen : L.scope.isGenerator = false
  nd : L.N.Nodup
  pre : L.N.take L.ps.length = L.ps
  cell : ∀ y ∈ L.scope.names, y.2 ≠ .cell
  par : ∀ x ∈ L.ps, L.scope.names.lookup x = some .local
  bind : ∀ (cl : List (Str × Addr)) (pm cv ctv : Value) (us : List Value), us.length = L.ps.length → bindArgs (PySem.W.kla_fn "<lambda>" L.q L.pa L.body L.scope cl pm cv ctv) ⟨us, []⟩ = pure (L.ps.zip us)
/-- the cells that were captured, and what they hold -/
structure ClOk (L : Lam) (cl : List (Str × Addr)) (ws : List V) (H : Hp) (h : Heap) : Prop where
  inj : ∀ x y c, cl.lookup x = some c → cl.lookup y = some c → x = y
  has : ∀ y, L.scope.names.lookup y = some .free → ∃ c, cl.lookup y = some c
  cell : ∀ x c, cl.lookup x = some c → (∃ v, h.IsCell c v) ∧ H c = none
  len : L.N.length = L.ps.length + ws.length
  val : ∀ (i : Nat) (x : Str) (v : V), L.N[L.ps.length + i]? = some x → ws[i]? = some v → ∃ u c, L.scope.names.lookup x = some .free ∧ RelV v u ∧ cl.lookup x = some c ∧ h.IsCell c (some u)
def cloCx (P : Program) (w : World) (K : PySem.W.Frag) (mg : Str → Option Value) (base : Heap) (L : Lam) (f c' : Addr) (cl : List (Str × Addr)) (A : Around) (outer : List Env) (s : Shared) (H : Hp) (E : XK) : Cx where
  prog := P
  w := w
  K := K
  mg := mg
  base := base
  A := A.deeper (PySem.W.envX L.q L.scope s.heap.objs.size f (.ref c') cl)
  N := L.N
  s_0 := s
  H_0 := H
  env := PySem.W.envX L.q L.scope s.heap.objs.size f (.ref c') cl
  outer := outer
  stack := PySem.W.envX L.q L.scope s.heap.objs.size f (.ref c') cl :: outer
  ex := []
  fn := fun _ => false
  calm := true
  pn := []
  xe := fun e s' => wpAny (model P w) (A.deeper (PySem.W.envX L.q L.scope s.heap.objs.size f (.ref c') cl)) (leaving (PySem.W.envX L.q L.scope s.heap.objs.size f (.ref c') cl) e) (fun _ s'' => L2N.CX P w outer H s E e s'') (fun e' s'' => L2N.CX P w outer H s E e' s'') s'
theorem zip_rev_lookup {ps : List Str} (nd : ps.Nodup) : ∀ {us : List Value} {i : Nat} {x : Str} {u : Value}, ps[i]? = some x → us[i]? = some u → ((ps.zip us).reverse).lookup x = some u := by
  induction ps with
  | nil => intro us i x u h; simp at h
  | cons y ps ih =>
    intro us i x u h1 h2
    cases us with
    | nil => simp at h2
    | cons v us =>
      rw [List.zip_cons_cons, List.reverse_cons, List.lookup_append]
      cases i with
      | zero =>
        simp at h1 h2
        subst h1 h2
        have hn : (ps.zip us).reverse.lookup y = none := by
          cases q : (ps.zip us).reverse.lookup y with
          | none => rfl
          | some z =>
            have := PySem.mem_of_lookup q
            rw [List.mem_reverse] at this
            exact absurd (List.of_mem_zip this).1 (List.nodup_cons.mp nd).1
        rw [hn]
        show [(y, v)].lookup y = some v
        simp [List.lookup]
      | succ i =>
        rw [ih (List.nodup_cons.mp nd).2 (us := us) (i := i) (by simpa using h1) (by simpa using h2)]
        rfl
section
variable {P : Program} {w : World} {K : PySem.W.Frag} {mg : Str → Option Value} {base : Heap} {L : Lam} {f c' : Addr} {cl : List (Str × Addr)} {A : Around} {outer : List Env} {s : Shared} {H : Hp} {E : XK} {us : List Value} {vs ws : List V}
theorem clo_start {h₁ : Heap} {tk : Nat} (W : LamW L) (hd : A.handled = none) (e0 : Env0 P w K mg base A outer s H) (C : ClOk L cl ws H s.heap) (r : Vals vs us) (hl : vs.length = L.ps.length)
    (hns : h₁.Ns s.heap.objs.size fun y => (L.ps.zip us).reverse.lookup y) (kp : ∀ b o, s.heap.get? b = some o → h₁.get? b = some o) :
    Inv (cloCx P w K mg base L f c' cl A outer s H E) [] (vs.map some ++ ws.map some) H { s with heap := h₁, toks := tk } := by
  have noA : ∀ b : Addr, b ∉ (cloCx P w K mg base L f c' cl A outer s H E).ex := fun b z => absurd (show b ∈ ([] : List Addr) from z) (by simp)
  have ndP : L.ps.Nodup := by rw [← W.pre]; exact W.nd.sublist (List.take_sublist _ _)
  refine ⟨⟨e0.mod, W.kind, rfl, rfl, Nat.le_refl _, C.inj, fun y hy => ?_, fun y c z _ => ?_, fun _ => hd, Around.frames_deeper e0.frames, .inr ⟨rfl, rfl⟩, fun b z => absurd z (noA b), e0.bs, e0.bsz, fun b _ _ => noA b, fun b z => absurd z (noA b), e0.funs, e0.frf⟩,
    rfl, e0.bare, Un.kept kp, ⟨_, hns, fun i y v e1 e2 e3 => ?_⟩, fun y c e => ?_, e0.hok.fresh (Nat.le_refl _), fun y c e => (C.cell y c e).2, fun q hq => absurd (show q ∈ ([] : List (Addr × Obj)) from hq) (by simp), e0.hok.kept kp, ?_⟩
  · have hy : L.scope.names.lookup y = some .cell ∨ L.scope.names.lookup y = some .free := hy
    rcases hy with hy | hy
    · exact absurd rfl (W.cell _ (PySem.mem_of_lookup hy))
    · exact C.has y hy
  · cases (show false = true from z)
  · have e1 : L.N[i]? = some y := e1
    by_cases q : i < vs.length
    · rw [List.getElem?_append_left (by rw [List.length_map]; exact q), List.getElem?_map] at e2
      obtain ⟨v', e4, e5⟩ := Option.map_eq_some_iff.mp e2
      cases e5
      obtain ⟨u, hu, rv⟩ := r.get e4
      have hp : L.ps[i]? = some y := by
        rw [← W.pre, List.getElem?_take_of_lt (by omega)]
        exact e1
      exact ⟨u, rv, .inl ⟨W.par y (List.mem_of_getElem? hp), zip_rev_lookup ndP hp hu⟩⟩
    · rw [List.getElem?_append_right (by rw [List.length_map]; omega), List.length_map, List.getElem?_map] at e2
      obtain ⟨v', e4, e5⟩ := Option.map_eq_some_iff.mp e2
      cases e5
      obtain ⟨u, c, f1, rv, f2, f3⟩ := C.val (i - vs.length) y v (by rw [← hl]; have : vs.length + (i - vs.length) = i := by omega
                                                                     rw [this]; exact e1) e4
      exact ⟨u, rv, .inr ⟨.inr f1, c, f2, f3.keeps kp⟩⟩
  · obtain ⟨⟨v, z⟩, _⟩ := C.cell y c e
    exact ⟨v, z.keeps kp⟩
  · show (vs.map some ++ ws.map some).length = L.N.length
    rw [List.length_append, List.length_map, List.length_map, C.len, hl]
/-- f(..) for a lambda at f whose cells are known -/
theorem clo_run {O : List (Addr × Obj)} {pm ctv : Value} {k : Nat} {Q : VK} {tb : TE} (W : LamW L) (hr : Room (k + 1) A) (e0 : Env0 P w K mg base A outer s (ov O H)) (ko : OvOk O H s.heap (frs outer)) (hf : s.heap.get? f = some (L.obj cl pm c' ctv))
    (hco : ∃ (oc : Obj) (fs : Array Value) (t : Tok), s.heap.get? c' = some oc ∧ oc.data = .fields fs ∧ fs[1]? = some (.str L.q t)) (C : ClOk L cl ws H s.heap) (r : Vals vs us) (hl : vs.length = L.ps.length)
    (hb : PE (cloCx P w K mg base L f c' cl A outer s H (fun c d H' => NoO O H' → E c d (ov O H'))) L.body tb) (ht : tb (vs.map some ++ ws.map some) H fun v H' => NoO O H' → Q v (ov O H')) :
    codeAny (model P w) A (.call (.ref f) ⟨us, []⟩) (CR (L2N.CX P w) outer P w (ov O H) s Q E) s := by
  have e1 := env0_dn e0 ko.no
  have lim : s.heap.NoLimit := e0.mod.nolimit.keeps fun b o e => (e0.bs b o e).1
  refine codeAny_mono (R := CR (L2N.CX P w) outer P w H s (fun v H' => NoO O H' → Q v (ov O H')) (fun c d H' => NoO O H' → E c d (ov O H'))) ?_ fun r s' h => cr_up ko h
  obtain ⟨oc, fs, t, h1, h2, h3⟩ := hco
  refine PySem.W.kla_callFunE hr.depth hf rfl W.co W.gen rfl ⟨c', oc, fs, t, rfl, h1, h2, h3⟩ ?_
  rw [W.bind _ _ _ _ _ (by rw [← hl, r.length])]
  refine wpAny_pure (wpAny_newFunctionEnv W.cell (fun y hy => W.par y.1 (List.of_mem_zip hy).1) (fun h₁ hns hsb => ⟨lim.fresh _ hsb, ?_⟩) W.kind)
  have kp : ∀ b o, s.heap.get? b = some o → h₁.get? b = some o := fun b o e => hsb.extBut b o (Nat.ne_of_lt (Heap.lt_size e)) (Heap.get?_push_of_some _ e)
  have J := clo_start (f := f) (c' := c') (E := fun c d H' => NoO O H' → E c d (ov O H')) (tk := s.toks + (L.ps.zip us).length) W hr.hd e1 C r hl hns kp
  refine PySem.W.kla_codeExpr (wpAny_mono (hb.run [] _ _ H _ J ht) (fun v s' hq => ?_) fun e s' hq => hq)
  obtain ⟨w', H', J', rv, q⟩ := hq
  exact ⟨w', H', J'.os, J'.bare, J'.base, J'.hok, rv, q⟩
end
end Mi
/-! Mini: a small language of my own for the Python subset that the program and the laws use; its runs. -/
namespace Mi
open PySem
/-- data -/
inductive D where
  | non | bl (b : Bool) | int (i : Int) | str (s : Str)
  | tup (xs : List D) | lst (xs : List D)
  | dic (kvs : List (L2.Key × D))
  | scr (ns : List Int)
  | ref (n : Nat) | cls (k : Nat)
instance : Inhabited D := ⟨.non⟩
/-- what may be changed -/
inductive Cell where
  | lst (xs : List D) | dic (kvs : List (L2.Key × D)) | clo (i : Nat) (ds : List D) (b : Bool) | ins (k : Nat) (fs : List (Str × D)) | dead
abbrev MH := List Cell
def isClo : Cell → Bool
  | .clo _ _ _ => true
  | _ => false
def killC (m : MH) : MH := m.map fun c => if isClo c then .dead else c
def revC : MH → MH → MH
  | [], m' => m'
  | c :: m, c' :: m' => (if isClo c then c else c') :: revC m m'
  | _ :: _, [] => []
def cloT : Cell → Bool
  | .clo _ _ b => b
  | _ => false
def okz (n : Nat) (m : MH) : Bool := (m.set n .dead).all fun c => !cloT c
structure Ex where
  cls : Str
  arg : Option D
inductive R (α : Type) where
  | ok (a : α) (m : MH) | exc (x : Ex) (m : MH) | stuck
def R.bind {α β : Type} (r : R α) (k : α → MH → R β) : R β := match r with
  | .ok a m => k a m
  | .exc x m => .exc x m
  | .stuck => .stuck
def ofO {α : Type} (o : Option α) (m : MH) : R α := match o with
  | some a => .ok a m
  | none => .stuck
/-! ### depth, equality -/
mutual
def dep : D → Nat
  | .non => 0
  | .bl _ => 0
  | .int _ => 0
  | .str s => if PyData.strOk s then 0 else 1000
  | .tup xs => depA xs + 1
  | .lst xs => depA xs + 1
  | .dic _ => 1000
  | .scr _ => 1000
  | .ref _ => 1000
  | .cls _ => 1000
def depA : List D → Nat
  | [] => 0
  | x :: xs => max (dep x) (depA xs)
end
mutual
def eqD : D → D → Bool
  | .non, .non => true
  | .bl a, .bl b => a == b
  | .bl a, .int j => (if a then 1 else 0) == j
  | .int i, .bl b => i == (if b then 1 else 0)
  | .int i, .int j => i == j
  | .str x, .str y => x == y
  | .tup xs, .tup ys => eqA xs ys
  | .lst xs, .lst ys => eqA xs ys
  | _, _ => false
def eqA : List D → List D → Bool
  | [], [] => true
  | x :: xs, y :: ys => eqD x y && eqA xs ys
  | _, _ => false
end
def LIM : Nat := 16777216
/-! every address named is below n -/
mutual
def below (n : Nat) : D → Bool
  | .tup xs => belowA n xs
  | .lst xs => belowA n xs
  | .dic kvs => belowK n kvs
  | .ref k => decide (k < n)
  | _ => true
def belowA (n : Nat) : List D → Bool
  | [] => true
  | x :: xs => below n x && belowA n xs
def belowK (n : Nat) : List (L2.Key × D) → Bool
  | [] => true
  | (_, x) :: xs => below n x && belowK n xs
end
def belowC (n : Nat) : Cell → Bool
  | .lst xs => belowA n xs
  | .dic kvs => belowK n kvs
  | .clo _ ds _ => belowA n ds
  | .ins _ fs => belowA n (fs.map (·.2))
  | .dead => true
/-! ### operations -/
inductive BOp where
  | add | sub | mul | fdiv | mod | pow
deriving DecidableEq
/-- how the text calls a method of its own without naming it -/
inductive How where
  | prop (x : Str) | get | bin (o : BOp) | len | eq | call
deriving DecidableEq
inductive COp where
  | eq | ne | lt | le | gt | ge | is_ | isnot | in_ | notin
inductive Ty where
  | int | bool | str | tuple | list
inductive BI where
  | len | abs | int | tuple | list | all | any | sum | min2 | max2 | sorted
inductive MT where
  | append | pop | get | split | join
inductive IK where
  | seq | rng1 | rng2 | zip | enum
def asL (m : MH) : D → Option (List D)
  | .lst xs => some xs
  | .ref n => (match m[n]? with
    | some (.lst xs) => some xs
    | _ => none)
  | _ => none
def asK (m : MH) : D → Option (List (L2.Key × D))
  | .dic kvs => some kvs
  | .ref n => (match m[n]? with
    | some (.dic kvs) => some kvs
    | _ => none)
  | _ => none
def truth (m : MH) : D → Option Bool
  | .non => some false
  | .bl b => some b
  | .int i => some (i != 0)
  | .str s => if s.length ≤ LIM then some ((s.length : Int) != 0) else none
  | .tup xs => some (!xs.isEmpty)
  | .lst xs => some (!xs.isEmpty)
  | .ref n => (match m[n]? with
    | some (.lst xs) => some (!xs.isEmpty)
    | _ => none)
  | _ => none
def smallI (i : Int) : Bool := decide (-(2 ^ 64) < i) && decide (i < 2 ^ 64)
def binI : BOp → Int → Int → Option Int
  | .add, i, j => some (i + j)
  | .sub, i, j => some (i - j)
  | .mul, i, j => if smallI i || smallI j then some (i * j) else none
  | .mod, i, j => if 0 < j then some (i % j) else none
  | .fdiv, i, j => if 0 < j && decide (j < 1073741824) then some (i / j) else none
  | .pow, i, j => if decide (0 ≤ j) && decide (j ≤ 1000000) && decide (i.natAbs < 2 ^ 64) then some (i ^ j.toNat) else none
def intD (o : BOp) : D → D → Option D
  | .int i, .int j => (binI o i j).map D.int
  | _, _ => none
def addD (m : MH) (x y : D) : Option D := match x with
  | .int i => (match y with
    | .int j => some (.int (i + j))
    | _ => none)
  | .str s => (match y with
    | .str t => if s.length + t.length ≤ LIM then some (.str (s ++ t)) else none
    | _ => none)
  | .tup xs => (match y with
    | .tup ys => if xs.length + ys.length ≤ LIM then some (.tup (xs ++ ys)) else none
    | _ => none)
  | x => (match asL m x with
    | some xs => (match asL m y with
      | some ys => if xs.length + ys.length ≤ LIM then some (.lst (xs ++ ys)) else none
      | none => none)
    | none => none)
def mulD (m : MH) (x y : D) : Option D := match y with
  | .int k => (match x with
    | .int i => (binI .mul i k).map D.int
    | .tup xs => if decide (xs ≠ []) && decide (2 ≤ k) && decide (k ≤ 1000) && decide (xs.length ≤ 1000) then some (.tup (List.replicate k.toNat xs).flatten) else none
    | x => (match asL m x with
      | some xs => if decide (0 ≤ k) && decide (k ≤ 1000) && decide (xs.length ≤ 1000) then some (.lst (List.replicate k.toNat xs).flatten) else none
      | none => none))
  | _ => none
def binD (m : MH) (o : BOp) (x y : D) : Option D := match o with
  | .add => addD m x y
  | .mul => mulD m x y
  | o => intD o x y
def okD (d : D) : Bool := decide (dep d ≤ 60)
def eqM (x y : D) : Option Bool := match x, y with
  | .int i, .int j => some (i == j)
  | .str i, .str j => some (i == j)
  | .tup xs, .tup [] => some xs.isEmpty
  | .lst xs, .lst [] => some xs.isEmpty
  | x, y => if okD x && okD y then some (eqD x y) else none
def isN : D → Bool
  | .non => true
  | _ => false
def isM (x y : D) : Option Bool := match y with
  | .non => some (isN x)
  | .bl b => (match x with
    | .bl a => some (decide (a = b))
    | _ => none)
  | _ => none
def keyOf : D → Option L2.Key
  | .int i => some (.inl i)
  | .str s => some (.inr s)
  | _ => none
def lookK (k : L2.Key) : List (L2.Key × D) → Option D
  | [] => none
  | (j, x) :: r => if j = k then some x else lookK k r
def inS (x : D) (ys : List D) : Option Bool := if okD x && decide (depA ys ≤ 59) then some (ys.any fun z => eqD z x) else none
def inK (x : D) (kvs : List (L2.Key × D)) : Option Bool := (keyOf x).map fun k => (lookK k kvs).isSome
def inM (m : MH) (x y : D) : Option Bool := match y with
  | .tup ys => inS x ys
  | .lst ys => inS x ys
  | .dic kvs => inK x kvs
  | .ref n => (match m[n]? with
    | some (.dic kvs) => inK x kvs
    | some (.lst ys) => inS x ys
    | _ => none)
  | _ => none
def ltD (f : Int → Int → Bool) : D → D → Option Bool
  | .int i, .int j => some (f i j)
  | _, _ => none
def cmpM (m : MH) (o : COp) (x y : D) : Option Bool := match o with
  | .eq => eqM x y
  | .ne => (eqM x y).map (!·)
  | .lt => ltD (fun i j => decide (i < j)) x y
  | .le => ltD (fun i j => decide (i ≤ j)) x y
  | .gt => ltD (fun i j => decide (j < i)) x y
  | .ge => ltD (fun i j => decide (j ≤ i)) x y
  | .is_ => isM x y
  | .isnot => (isM x y).map (!·)
  | .in_ => inM m x y
  | .notin => (inM m x y).map (!·)
def isiD : Ty → D → Option Bool
  | _, .ref _ => none
  | _, .dic _ => none
  | _, .cls _ => none
  | .int, .int _ => some true
  | .int, .bl _ => some true
  | .bool, .bl _ => some true
  | .str, .str _ => some true
  | .tuple, .tup _ => some true
  | .list, .lst _ => some true
  | .list, .scr _ => some true
  | _, _ => some false
/-- the place of an index -/
def atD (xs : List D) (i : Int) : Option D := L2.atI xs i
def ixS (xs : List D) : D → Option D
  | .int i => atD xs i
  | _ => none
def ixK (kvs : List (L2.Key × D)) (k : D) : Option D := (keyOf k).bind fun k => lookK k kvs
def ixD (m : MH) (x k : D) : Option D := match x with
  | .tup xs => ixS xs k
  | .lst xs => ixS xs k
  | .scr ns => ixS (ns.map D.int) k
  | .dic kvs => ixK kvs k
  | .ref n => (match m[n]? with
    | some (.lst xs) => ixS xs k
    | some (.dic kvs) => ixK kvs k
    | _ => none)
  | _ => none
def bound : D → Option (Option Int)
  | .non => some none
  | .int i => some (some i)
  | _ => none
def cutD (xs : List D) (lo hi : Option Int) : List D := (xs.drop (HT.sIx xs.length 0 lo)).take (HT.sIx xs.length xs.length hi - HT.sIx xs.length 0 lo)
def slD (m : MH) (x : D) (lo hi : Option Int) : Option D := match x with
  | .tup xs => some (.tup (cutD xs lo hi))
  | .str z => if z.length ≤ LIM then some (.str (L2.cutS z lo hi)) else none
  | x => (asL m x).map fun xs => .lst (cutD xs lo hi)
def intsOf : List D → Option (List Int)
  | [] => some []
  | .int i :: r => (intsOf r).map (i :: ·)
  | _ :: _ => none
def blsOf : List D → Option (List Bool)
  | [] => some []
  | .bl i :: r => (blsOf r).map (i :: ·)
  | _ :: _ => none
def strsOf : List D → Option (List Str)
  | [] => some []
  | .str i :: r => (strsOf r).map (i :: ·)
  | _ :: _ => none
def insI (i : Int) : List Int → List Int
  | [] => [i]
  | j :: r => if i ≤ j then i :: j :: r else j :: insI i r
def sortI : List Int → List Int
  | [] => []
  | i :: r => insI i (sortI r)
def lenD (m : MH) : D → Option D
  | .str s => if s.length ≤ LIM then some (.int s.length) else none
  | .tup xs => some (.int xs.length)
  | .scr ns => some (.int ns.length)
  | x => (asL m x).map fun xs => .int xs.length
def tupD (m : MH) : D → Option D
  | .tup xs => some (.tup xs)
  | x => (asL m x).map D.tup
def lstD (m : MH) : D → Option D
  | .tup xs => some (.lst xs)
  | x => (asL m x).map D.lst
def absD : D → Option D
  | .int i => some (.int (if i < 0 then -i else i))
  | _ => none
def toI : D → Option D
  | .int i => some (.int i)
  | .bl b => some (.int (if b then 1 else 0))
  | _ => none
def allD (m : MH) (x : D) : Option D := (asL m x).bind fun xs => (blsOf xs).map fun bs => .bl (bs.all id)
def anyD (m : MH) (x : D) : Option D := (asL m x).bind fun xs => (blsOf xs).map fun bs => .bl (bs.any id)
def sumD (m : MH) (x : D) : Option D := (asL m x).bind fun xs => (intsOf xs).map fun ns => .int ns.sum
def sortedD (m : MH) (x : D) : Option D := (asL m x).bind fun xs => (intsOf xs).bind fun ns => if ns.length < 64 then some (.lst ((sortI ns).map D.int)) else none
def minD : D → D → Option D
  | .int i, .int j => some (.int (if j < i then j else i))
  | _, _ => none
def maxD : D → D → Option D
  | .int i, .int j => some (.int (if j > i then j else i))
  | _, _ => none
def one1 (g : D → Option D) : List D → Option D
  | [d] => g d
  | _ => none
def two2 (g : D → D → Option D) : List D → Option D
  | [d, e] => g d e
  | _ => none
def biD (m : MH) : BI → List D → Option D
  | .len => one1 (lenD m)
  | .abs => one1 absD
  | .int => one1 toI
  | .tuple => one1 (tupD m)
  | .list => one1 (lstD m)
  | .all => one1 (allD m)
  | .any => one1 (anyD m)
  | .sum => one1 (sumD m)
  | .sorted => one1 (sortedD m)
  | .min2 => two2 minD
  | .max2 => two2 maxD
def isLst (m : MH) : D → Bool
  | .lst _ => true
  | .ref n => (match m[n]? with
    | some (.lst _) => true
    | _ => false)
  | _ => false
def isDic (m : MH) : D → Bool
  | .dic _ => true
  | .ref n => (match m[n]? with
    | some (.dic _) => true
    | _ => false)
  | _ => false
def isStr : D → Bool
  | .str _ => true
  | _ => false
def mtTy (m : MH) : MT → D → Bool
  | .append, x => isLst m x
  | .pop, x => isLst m x
  | .get, x => isDic m x
  | .split, x => isStr x
  | .join, x => isStr x
def appD (x y : D) (m : MH) : R D := match x with
  | .ref n => (match m[n]? with
    | some (.lst xs) => if xs.length < LIM then .ok .non (m.set n (.lst (xs ++ [y]))) else .stuck
    | _ => .stuck)
  | _ => .stuck
def popD (x : D) (m : MH) : R D := match x with
  | .ref n => (match m[n]? with
    | some (.lst xs) => (match xs[xs.length - 1]? with
      | some y => .ok y (m.set n (.lst xs.dropLast))
      | none => .stuck)
    | _ => .stuck)
  | _ => .stuck
def getD2 (x k y : D) (m : MH) : R D := match asK m x with
  | some kvs => (match keyOf k with
    | some k => .ok ((lookK k kvs).getD y) m
    | none => .stuck)
  | none => .stuck
def splitD (x y : D) (m : MH) : R D := match x with
  | .str a => (match y with
    | .str b => if (b.length == 0) = false ∧ a.length + 2 ≤ LIM then .ok (.lst ((Txt.split a b).map D.str)) m else .stuck
    | _ => .stuck)
  | _ => .stuck
def asT (m : MH) : D → Option (List D)
  | .tup xs => some xs
  | x => asL m x
def joinD (x y : D) (m : MH) : R D := match x with
  | .str a => (match asT m y with
    | some xs => (match strsOf xs with
      | some ys => if (ys.map (·.length)).sum + ys.length * a.length ≤ 16777216 then .ok (.str (Txt.join a ys)) m else .stuck
      | none => .stuck)
    | none => .stuck)
  | _ => .stuck
def mtD (f : MT) (x : D) (ds : List D) (m : MH) : R D := match f with
  | .append => (match ds with
    | [y] => appD x y m
    | _ => .stuck)
  | .pop => (match ds with
    | [] => popD x m
    | _ => .stuck)
  | .get => (match ds with
    | [k, y] => getD2 x k y m
    | _ => .stuck)
  | .split => (match ds with
    | [y] => splitD x y m
    | _ => .stuck)
  | .join => (match ds with
    | [y] => joinD x y m
    | _ => .stuck)
def rngD (a b : Int) : List D := (List.range (b - a).toNat).map fun i => D.int (a + (i : Nat))
def zipD : List D → List D → List D
  | x :: xs, y :: ys => .tup [x, y] :: zipD xs ys
  | _, _ => []
def enumD (n : Int) : List D → List D
  | [] => []
  | x :: xs => .tup [.int n, x] :: enumD (n + 1) xs
def seqM (m : MH) : D → Option (List D)
  | .tup xs => some xs
  | .scr ns => some (ns.map D.int)
  | .lst xs => some xs
  | _ => none
def okR (i : Int) : Bool := decide (-(2 ^ 62) ≤ i) && decide (i < 2 ^ 62)
def itemsD (m : MH) : IK → List D → Option (List D)
  | .seq, [x] => seqM m x
  | .rng1, [.int j] => if okR j && decide (j ≤ 16777216) then some (rngD 0 j) else none
  | .rng2, [.int i, .int j] => if okR i && okR j && decide (j - i ≤ 16777216) then some (rngD i j) else none
  | .zip, [.tup xs, .tup ys] => if xs.length = ys.length then some (zipD xs ys) else none
  | .zip, [.lst xs, .lst ys] => if xs.length = ys.length then some (zipD xs ys) else none
  | .zip, [.lst xs, .tup ys] => if xs.length = ys.length then some (zipD xs ys) else none
  | .zip, [.tup xs, .lst ys] => if xs.length = ys.length then some (zipD xs ys) else none
  | .enum, [.lst xs] => some (enumD 0 xs)
  | _, _ => none
/-- a default -/
inductive Df where
  | tup0 | int (i : Int) | non
deriving DecidableEq
def Df.d : Df → D
  | .tup0 => .tup []
  | .int i => .int i
  | .non => .non
/-! ### terms -/
inductive Tg where
  | one (i : Nat) | many (is : List Nat)
inductive E where
  | var (i : Nat) | cst (d : D) | glb (j : Nat)
  | tup (es : List E) | lst (es : List E) | newl (es : List E)
  | dct (ks : List L2.Key) (vs : List E) | newd (ks : List L2.Key) (vs : List E) | cpd (a : E)
  | bin (o : BOp) (a b : E) | addl (a b : E)
  | cmp (o : COp) (a b : E) | chn (o p : COp) (a b c : E)
  | bo (isAnd : Bool) (es : List E)
  | nt (a : E) | neg (a : E)
  | ite (t a b : E)
  | call (f : Nat) (es : List E)
  | bi (f : BI) (es : List E)
  | isi (a : E) (t : Ty)
  | ix (a i : E) | sl (a : E) (lo hi : Option E)
  | lc (elt : E) (tg : Tg) (k : IK) (es : List E) (cond : Option E)
  | mt (f : MT) (o : E) (es : List E)
  | frz (a : E)
  | cc (i : Nat) (es : List E)
  | clz (f : Nat) (i : Nat) (caps : List Nat)
  | fld (k : Nat) (x : Str) (a : E)
  | mth (x : Str) (k f : Nat) (o : E) (es : List E)
  | ow1 (h : How) (k f : Nat) (a : E) | ow2 (h : How) (k f : Nat) (a b : E)
  | mk (k f : Nat) (es : List E)
  | isc (k : Nat) (a : E)
  | gix (x : Str) (ys : List Str) (a : E)
  | mkd (x : Str) (k f : Nat) (es : List E) (dfl : List Df)
  | mkv (i : Nat) (x : Str) (k f : Nat) (es : List E)
  | cmt (q x : Str) (k f : Nat) (es : List E)
  | eqn (a : E)
/-- a maker's item: the word ahead of the lambda, the lambda, the slots that it captures -/
structure MkE where
  w : Option Str
  i : Nat
  caps : List Nat
/-- what a suite does while an exception is handled -/
inductive HSt where
  | set (j : Nat) (e : E) | cmp (j w t : Nat) (e0 e1 : E)
/-- what a suite does with the line of an exception -/
inductive LK where
  | pair (z : Str) | ne (j : Int) (b : Bool)
/-- what a clause does that has no name for its exception -/
inductive HEnd where
  | set (j : Nat) (d : D) | ret (d : D)
inductive S where
  | asg (t : Tg) (e : E)
  | ret (e : E)
  | ife (c : E) (a b : List S)
  | forr (t : Tg) (k : IK) (es : List E) (b : List S)
  | whl (c : E) (b : List S)
  | exp (e : E)
  | seti (o i v : E)
  | raise_ (c : Str) (es : List E)
  | brk | cnt | nev
  | tryr (i : Nat) (b : List S) (tab : List (Str × Bool))
  | mks (es : List MkE)
  | tryx (i : Nat) (b : List S) (tab : List (Str × List HSt))
  | forc (t : Tg) (k : IK) (es : List E) (b : List S)
  | setf (k : Nat) (o : E) (x : Str) (v : E)
  | aug (o : BOp) (i k f : Nat) (e : E)
  | tryk (b : List S) (hs : List HEnd) (tab : List (Str × Nat))
  | raiI (c : Str) (e : E)
  | tryl (i : Nat) (b : List S) (x : Str) (k : LK)
abbrev Env := List (Option D)
def setT : Tg → D → Env → Option Env
  | .one i, d, env => some (env.set i (some d))
  | .many is, .tup ds, env => if is.length = ds.length then some ((is.zip ds).foldl (fun e p => e.set p.1 (some p.2)) env) else none
  | _, _, _ => none
def wipeT : Tg → Env → Env
  | .one i, env => env.set i none
  | .many is, env => is.foldr (fun i e => e.set i none) env
abbrev Call := Nat → List D → MH → R D
def lcRun (fe : Env → MH → R D) (fc : Env → MH → R Bool) (tg : Tg) (env : Env) : List D → MH → R (List D)
  | [], m => .ok [] m
  | x :: xs, m => match setT tg x env with
    | none => .stuck
    | some env' => (fc env' m).bind fun b m => match b with
      | true => (fe env' m).bind fun y m => (lcRun fe fc tg env xs m).bind fun ys m => .ok (y :: ys) m
      | false => lcRun fe fc tg env xs m
def thaw (n : Nat) (m : MH) : R D := match m[n]? with
  | some (.lst xs) => .ok (.lst xs) (m.set n .dead)
  | some (.dic kvs) => .ok (.dic kvs) (m.set n .dead)
  | _ => .stuck
def noX (r : R D) : R D := match r with
  | .exc _ _ => .stuck
  | r => r
def putK (kvs : List (L2.Key × D)) (k : L2.Key) (x : D) : List (L2.Key × D) :=
  if (lookK k kvs).isSome then kvs.map fun p => if p.1 = k then (p.1, x) else p else kvs ++ [(k, x)]
def mkDic : List L2.Key → List D → List (L2.Key × D) → List (L2.Key × D)
  | k :: ks, v :: vs, acc => mkDic ks vs (putK acc k v)
  | _, _, acc => acc
/-- behind the run of a closure -/
def cloIn (m : MH) (r : R D) : R D := match r with
  | .ok d m' => .ok d (revC m m')
  | .exc x m' => .exc x (revC m m')
  | .stuck => .stuck
/-- behind a call with a lambda -/
def cloOut (n : Nat) (r : R D) : R D := match r with
  | .ok d m' => if okz n m' then .ok d (m'.set n .dead) else .stuck
  | .exc x m' => if okz n m' then .exc x (m'.set n .dead) else .stuck
  | .stuck => .stuck
def capsD (env : Env) : List Nat → Option (List D)
  | [] => some []
  | i :: is => (match env[i]? with
    | some (some d) => (capsD env is).map (d :: ·)
    | _ => none)
/-! instances -/
def insK (m : MH) (k : Nat) : D → Bool
  | .ref n => (match m[n]? with
    | some (.ins j _) => j == k
    | _ => false)
  | _ => false
def insX (m : MH) (k : Nat) (x : Str) : D → Bool
  | .ref n => (match m[n]? with
    | some (.ins j fs) => j == k && (fs.lookup x).isNone
    | _ => false)
  | _ => false
def fldD (m : MH) (k : Nat) (x : Str) : D → Option D
  | .ref n => (match m[n]? with
    | some (.ins j fs) => if j = k then fs.lookup x else none
    | _ => none)
  | _ => none
/-- the first place of a text -/
def idxS : List Str → Str → Option Nat
  | [], _ => none
  | y :: ys, z => if y = z then some 0 else (idxS ys z).map (· + 1)
def gixD (ys : List Str) : D → Option D
  | .str z => (idxS ys z).map fun j => .int (j : Nat)
  | _ => none
def iscD (m : MH) (k : Nat) (d : D) : Option D := match d with
  | .ref n => if insK m k (.ref n) then some (.bl true) else none
  | .dic _ => none
  | .cls _ => none
  | _ => some (.bl false)
def putA (x : Str) (d : D) : List (Str × D) → List (Str × D)
  | [] => [(x, d)]
  | (y, z) :: r => if y = x then (y, d) :: r else (y, z) :: putA x d r
def setfD (k : Nat) (x : Str) (d : D) (m : MH) : D → Option MH
  | .ref n => (match m[n]? with
    | some (.ins j fs) => if j = k ∧ fs.length < 1000 then some (m.set n (.ins j (putA x d fs))) else none
    | _ => none)
  | _ => none
def lenI (r : R D) : R D := match r with
  | .ok (.int i) m => if 0 ≤ i ∧ i < 4611686018427387904 then .ok (.int i) m else .stuck
  | _ => .stuck
def blR (r : R D) : R D := match r with
  | .ok (.bl b) m => .ok (.bl b) m
  | _ => .stuck
def ownEnd (h : How) (r : R D) : R D := match h with
  | .prop _ => noX r
  | .len => lenI r
  | .eq => blR r
  | _ => r
def plnD : D → Bool
  | .ref _ => false
  | .dic _ => false
  | .cls _ => false
  | _ => true
/-- the second of == is one of the class, too -/
def ownOk (h : How) (k : Nat) (m : MH) (ds : List D) : Bool := match h, ds with
  | .prop _, [d] => insK m k d
  | .len, [d] => insK m k d
  | .get, [d, _] => insK m k d
  | .bin _, [d, e] => insK m k d && plnD e
  | .call, [d, _] => insK m k d
  | .eq, [d, e] => insK m k d && insK m k e
  | _, _ => false
/-- behind __init__ -/
def mkEnd (n : Nat) (r : R D) : R D := match r with
  | .ok .non m' => .ok (.ref n) m'
  | .exc x m' => .exc x m'
  | _ => .stuck
/-- lambdas stand behind the defs -/
def LB : Nat := 1000
/-! G: what the constants of the module are -/
mutual
def eval (G : Nat → Option D) (C : Call) : E → Env → MH → R D
  | .var i, env, m => (match env[i]? with
    | some (some d) => .ok d m
    | _ => .stuck)
  | .cst d, _, m => .ok d m
  | .glb j, _, m => ofO (G j) m
  | .tup es, env, m => (evals G C es env m).bind fun ds m => .ok (.tup ds) m
  | .lst es, env, m => (evals G C es env m).bind fun ds m => .ok (.lst ds) m
  | .newl es, env, m => (evals G C es env m).bind fun ds m => .ok (.ref m.length) (m ++ [.lst ds])
  | .dct ks vs, env, m => (evals G C vs env m).bind fun vs m => .ok (.dic (mkDic ks vs [])) m
  | .newd ks vs, env, m => (evals G C vs env m).bind fun vs m => .ok (.ref m.length) (m ++ [.dic (mkDic ks vs [])])
  | .cpd a, env, m => (eval G C a env m).bind fun x m => match asK m x with
    | some kvs => .ok (.ref m.length) (m ++ [.dic kvs])
    | none => .stuck
  | .bin o a b, env, m => (eval G C a env m).bind fun x m => (eval G C b env m).bind fun y m => ofO (binD m o x y) m
  | .addl a b, env, m => (eval G C a env m).bind fun x m => (eval G C b env m).bind fun y m => (match addD m x y with
    | some (.lst xs) => .ok (.ref m.length) (m ++ [.lst xs])
    | _ => .stuck)
  | .cmp o a b, env, m => (eval G C a env m).bind fun x m => (eval G C b env m).bind fun y m => ofO ((cmpM m o x y).map D.bl) m
  | .chn o p a b c, env, m => (eval G C a env m).bind fun x m => (eval G C b env m).bind fun y m => match cmpM m o x y with
    | some true => (eval G C c env m).bind fun z m => ofO ((cmpM m p y z).map D.bl) m
    | some false => .ok (.bl false) m
    | none => .stuck
  | .bo k es, env, m => evalB G C k es env m
  | .nt a, env, m => (eval G C a env m).bind fun x m => match x with
    | .bl b => .ok (.bl (!b)) m
    | _ => .stuck
  | .neg a, env, m => (eval G C a env m).bind fun x m => match x with
    | .int i => .ok (.int (-i)) m
    | _ => .stuck
  | .ite t a b, env, m => (eval G C t env m).bind fun x m => match truth m x with
    | some true => eval G C a env m
    | some false => eval G C b env m
    | none => .stuck
  | .call f es, env, m => (evals G C es env m).bind fun ds m => C f ds m
  | .bi f es, env, m => (evals G C es env m).bind fun ds m => ofO (biD m f ds) m
  | .isi a t, env, m => (eval G C a env m).bind fun x m => ofO ((isiD t x).map D.bl) m
  | .ix a i, env, m => (eval G C a env m).bind fun x m => (eval G C i env m).bind fun y m => ofO (ixD m x y) m
  | .sl a lo hi, env, m => (eval G C a env m).bind fun x m => (evalP G C lo env m).bind fun l m => (evalP G C hi env m).bind fun h m => ofO (slD m x l h) m
  | .lc elt tg k es c, env, m => (evals G C es env m).bind fun ds m => match itemsD m k ds with
    | none => .stuck
    | some xs => (lcRun (fun env m => noX (eval G C elt env m)) (fun env m => evalC G C c env m) tg (wipeT tg env) xs m).bind fun ys m => .ok (.lst ys) m
  | .mt f o es, env, m => (eval G C o env m).bind fun x m => if mtTy m f x then (evals G C es env m).bind fun ds m => mtD f x ds m else .stuck
  | .frz a, env, m => (eval G C a env m).bind fun x m => match x with
    | .ref n => thaw n m
    | _ => .stuck
  | .cc i es, env, m => (evals G C es env m).bind fun ds m => match env[i]? with
    | some (some (.ref n)) => (match m[n]? with
      | some (.clo li cs _) => cloIn m (C (LB + li) (ds ++ cs) (killC m))
      | _ => .stuck)
    | _ => .stuck
  | .clz f i caps, env, m => (match capsD env caps with
    | some cs => cloOut m.length (C f [.ref m.length] (m ++ [.clo i cs true]))
    | none => .stuck)
  | .fld k x a, env, m => (eval G C a env m).bind fun d m => ofO (fldD m k x d) m
  | .mth x k f o es, env, m => (eval G C o env m).bind fun d m => if insX m k x d then (evals G C es env m).bind fun ds m => C f (d :: ds) m else .stuck
  | .ow1 h k f a, env, m => (eval G C a env m).bind fun d m => if ownOk h k m [d] then ownEnd h (C f [d] m) else .stuck
  | .ow2 h k f a b, env, m => (eval G C a env m).bind fun d m => (eval G C b env m).bind fun e m => if ownOk h k m [d, e] then ownEnd h (C f [d, e] m) else .stuck
  | .gix _ ys a, env, m => (eval G C a env m).bind fun d m => ofO (gixD ys d) m
  | .isc k a, env, m => (eval G C a env m).bind fun d m => ofO (iscD m k d) m
  | .mk k f es, env, m => (evals G C es env m).bind fun ds m => mkEnd m.length (C f (.ref m.length :: ds) (m ++ [.ins k []]))
  | .mkd _ k f es dfl, env, m => (evals G C es env m).bind fun ds m => mkEnd m.length (C f (.ref m.length :: (ds ++ dfl.map Df.d)) (m ++ [.ins k []]))
  | .mkv i _ k f es, env, m => (match env[i]? with
    | some (some (.cls j)) => if j = k then (evals G C es env m).bind fun ds m => mkEnd m.length (C f (.ref m.length :: ds) (m ++ [.ins k []])) else .stuck
    | _ => .stuck)
  | .cmt _ _ k f es, env, m => (evals G C es env m).bind fun ds m => C f (.cls k :: ds) m
  | .eqn a, env, m => (eval G C a env m).bind fun x m => ofO ((asL m x).map fun xs => .bl xs.isEmpty) m
def evals (G : Nat → Option D) (C : Call) : List E → Env → MH → R (List D)
  | [], _, m => .ok [] m
  | e :: es, env, m => (eval G C e env m).bind fun d m => (evals G C es env m).bind fun ds m => .ok (d :: ds) m
def evalB (G : Nat → Option D) (C : Call) (k : Bool) : List E → Env → MH → R D
  | [], _, _ => .stuck
  | [e], env, m => eval G C e env m
  | e :: es, env, m => (eval G C e env m).bind fun x m => match x with
    | .bl b => if b = k then evalB G C k es env m else .ok (.bl b) m
    | _ => .stuck
def evalP (G : Nat → Option D) (C : Call) : Option E → Env → MH → R (Option Int)
  | none, _, m => .ok none m
  | some e, env, m => (eval G C e env m).bind fun x m => match x with
    | .int i => .ok (some i) m
    | _ => .stuck
/-- a comprehension's test -/
def evalC (G : Nat → Option D) (C : Call) : Option E → Env → MH → R Bool
  | none, _, m => .ok true m
  | some e, env, m => (noX (eval G C e env m)).bind fun x m => ofO (truth m x) m
end
/-! ### statements -/
inductive Fl where
  | nx (e : Env) | rt (d : D) | bk (e : Env) | ct (e : Env) | ex (x : Ex) (e : Env)
abbrev X := Option (Fl × MH)
def R.at {α : Type} (r : R α) (env : Env) (k : α → MH → X) : X := match r with
  | .ok a m => k a m
  | .exc x m => some (.ex x env, m)
  | .stuck => none
def forRun (tg : Tg) (body : Env → MH → X) : List D → Env → MH → X
  | [], env, m => some (.nx env, m)
  | x :: xs, env, m => match setT tg x env with
    | none => none
    | some env' => match body env' m with
      | some (.nx e, m) => forRun tg body xs e m
      | some (.ct e, m) => forRun tg body xs e m
      | some (.bk e, m) => some (.nx e, m)
      | r => r
def whlRun (c : Env → MH → R Bool) (body : Env → MH → X) : Nat → Env → MH → X
  | 0, _, _ => none
  | n + 1, env, m => (c env m).at env fun b m => match b with
    | false => some (.nx env, m)
    | true => match body env m with
      | some (.nx e, m) => whlRun c body n e m
      | some (.ct e, m) => whlRun c body n e m
      | some (.bk e, m) => some (.nx e, m)
      | r => r
def test (r : R D) : R Bool := r.bind fun x m => ofO (truth m x) m
def setL (n : Nat) (xs : List D) (v : D) (m : MH) : D → Option MH
  | .int i => (L2.ixN xs.length i).map fun j => m.set n (.lst (xs.set j v))
  | _ => none
def setK (n : Nat) (kvs : List (L2.Key × D)) (v : D) (m : MH) : Option L2.Key → Option MH
  | some k => if kvs.length < LIM then some (m.set n (.dic (putK kvs k v))) else none
  | none => none
def setiD : D → D → D → MH → Option MH
  | .ref n, k, v, m => (match m[n]? with
    | some (.lst xs) => setL n xs v m k
    | some (.dic kvs) => setK n kvs v m (keyOf k)
    | _ => none)
  | _, _, _, _ => none
/-- try: .. except C as e: return isinstance(e, D) -/
def tryEnd (i : Nat) (tab : List (Str × Bool)) (x : Ex) (e : Env) (m : MH) : X := match tab.lookup x.cls with
  | some r => if i < e.length then some (.rt (.bl r), m) else none
  | none => none
/-- the closures of a maker; what it returns -/
def mkCs (env : Env) : List MkE → Option (List Cell)
  | [] => some []
  | e :: es => (capsD env e.caps).bind fun cs => (mkCs env es).map (.clo e.i cs false :: ·)
def mkRef (n : Nat) (e : MkE) : D := match e.w with
  | none => .ref n
  | some w => .tup [.str w, .ref n]
def mkRefs : Nat → List MkE → List D
  | _, [] => []
  | n, e :: es => mkRef n e :: mkRefs (n + 1) es
/-- behind a turn: the cells of the turn are forgotten -/
def swE (n : Nat) (env : Env) : Env := env.map fun o => match o with
  | some d => if below n d then some d else none
  | none => none
def swX (n : Nat) (r : X) : X := match r with
  | some (.nx e, m) => if m.length ≤ n then some (.nx e, m) else if (m.take n).all (belowC n) then some (.nx (swE n e), m.take n) else some (.nx e, m)
  | r => r
/-- the pairs of two lists -/
def zipL (G : Nat → Option D) (C : Call) (e0 e1 : E) (env : Env) (m : MH) : R (List D) := (eval G C e0 env m).bind fun d m => (eval G C e1 env m).bind fun d2 m => match d, d2 with
  | .lst xs, .lst ys => if xs.length = ys.length then .ok (zipD xs ys) m else .stuck
  | _, _ => .stuck
def hval (G : Nat → Option D) (C : Call) : HSt → Env → MH → R D
  | .set _ e, env, m => eval G C e env m
  | .cmp _ w t e0 e1, env, m => (zipL G C e0 e1 env m).bind fun xs m => (lcRun (fun env m => noX (eval G C (.var w) env m)) (fun env m => evalC G C (some (.var t)) env m) (.many [w, t]) (wipeT (.many [w, t]) env) xs m).bind fun ys m => .ok (.lst ys) m
def HSt.j : HSt → Nat
  | .set j _ => j
  | .cmp j _ _ _ _ => j
def hrun (G : Nat → Option D) (C : Call) : List HSt → Env → MH → Option (Env × MH)
  | [], env, m => some (env, m)
  | h :: r, env, m => match hval G C h env m with
    | .ok d m => hrun G C r (env.set h.j (some d)) m
    | _ => none
def tryxEnd (G : Nat → Option D) (C : Call) (i : Nat) (tab : List (Str × List HSt)) (x : Ex) (e : Env) (m : MH) : X := match tab.lookup x.cls with
  | some su => if i < e.length then (match hrun G C su (e.set i none) m with
    | some (e2, m2) => some (.nx (e2.set i none), m2)
    | none => none) else none
  | none => none
/-- behind a try with clauses that have no names -/
def hEndX (h : HEnd) (e : Env) (m : MH) : X := match h with
  | .set j d => some (.nx (e.set j (some d)), m)
  | .ret d => some (.rt d, m)
def trykEnd (hs : List HEnd) (tab : List (Str × Nat)) (x : Ex) (e : Env) (m : MH) : X := match tab.lookup x.cls with
  | some i => (match hs[i]? with
    | some h => hEndX h e m
    | none => none)
  | none => none
/-- behind a try whose suite reads the exception's line -/
def trylEnd (i : Nat) (x : Str) (k : LK) (y : Ex) (e : Env) (m : MH) : X := if y.cls = x ∧ i < e.length then (match y.arg with
  | some (.int n) => (match k with
    | .pair _ => some (.rt (.tup [.non, .int n]), m)
    | .ne j b => if n = j then some (.nx (e.set i none), m) else some (.rt (.bl b), m))
  | _ => none) else none
mutual
def exec (G : Nat → Option D) (C : Call) (W : Nat) : S → Env → MH → X
  | .asg t e, env, m => (eval G C e env m).at env fun d m => match setT t d env with
    | some env' => some (.nx env', m)
    | none => none
  | .ret e, env, m => (eval G C e env m).at env fun d m => some (.rt d, m)
  | .ife c a b, env, m => (test (eval G C c env m)).at env fun k m => match k with
    | true => execs G C W a env m
    | false => execs G C W b env m
  | .forr t k es b, env, m => (evals G C es env m).at env fun ds m => match itemsD m k ds with
    | some xs => forRun t (fun env m => execs G C W b env m) xs env m
    | none => none
  | .whl c b, env, m => whlRun (fun env m => test (eval G C c env m)) (fun env m => execs G C W b env m) W env m
  | .exp e, env, m => (eval G C e env m).at env fun _ m => some (.nx env, m)
  | .seti o i v, env, m => (eval G C v env m).at env fun z m => (eval G C o env m).at env fun x m => (eval G C i env m).at env fun y m => match setiD x y z m with
    | some m => some (.nx env, m)
    | none => none
  | .raise_ c es, env, m => (evals G C es env m).at env fun ds m => some (.ex ⟨c, ds.head?⟩ env, m)
  | .brk, env, m => some (.bk env, m)
  | .cnt, env, m => some (.ct env, m)
  | .nev, _, _ => none
  | .tryr i b tab, env, m => match execs G C W b env m with
    | some (.ex x e, m) => tryEnd i tab x e m
    | r => r
  | .tryx i b tab, env, m => match execs G C W b env m with
    | some (.ex x e, m) => tryxEnd G C i tab x e m
    | r => r
  | .mks es, env, m => (match mkCs env es with
    | some cs => some (.rt (.lst (mkRefs m.length es)), m ++ cs)
    | none => none)
  | .forc t k es b, env, m => (evals G C es env m).at env fun ds m => match itemsD m k ds with
    | some xs => forRun t (fun env m => swX m.length (execs G C W b env m)) xs env m
    | none => none
  | .setf k o x v, env, m => (eval G C v env m).at env fun z m => (eval G C o env m).at env fun d m => match setfD k x z m d with
    | some m => some (.nx env, m)
    | none => none
  | .aug _ i k f e, env, m => (match env[i]? with
    | some (some d) => (eval G C e env m).at env fun y m => if insK m k d then (C f [d, y] m).at env fun z m => some (.nx (env.set i (some z)), m) else none
    | _ => none)
  | .tryk b hs tab, env, m => match execs G C W b env m with
    | some (.ex x e, m) => trykEnd hs tab x e m
    | r => r
  | .raiI c e, env, m => (eval G C e env m).at env fun d m => match d with
    | .int i => some (.ex ⟨c, some (.int i)⟩ env, m)
    | _ => none
  | .tryl i b x k, env, m => match execs G C W b env m with
    | some (.ex y e, m) => trylEnd i x k y e m
    | r => r
def execs (G : Nat → Option D) (C : Call) (W : Nat) : List S → Env → MH → X
  | [], env, m => some (.nx env, m)
  | s :: ss, env, m => match exec G C W s env m with
    | some (.nx env, m) => execs G C W ss env m
    | r => r
end
/-! ### defs -/
structure FD where
  /-- parameters, further names -/
  np : Nat
  nl : Nat
  body : List S
def cutM (n : Nat) (d : D) (m : MH) : MH := if m.length ≤ n then m else if below n d && (m.take n).all (belowC n) then m.take n else m
def endF (n : Nat) : X → R D
  | some (.rt d, m) => .ok d (cutM n d m)
  | some (.nx _, m) => .ok .non (cutM n .non m)
  | some (.ex x _, m) => .exc x m
  | _ => .stuck
def callF (G : Nat → Option D) (T : Nat → Option FD) (W : Nat) : Nat → Call
  | 0, _, _, _ => .stuck
  | k + 1, f, ds, m => match T f with
    | some fd => if ds.length = fd.np then endF m.length (execs G (callF G T W k) W fd.body (ds.map some ++ List.replicate fd.nl none) m) else .stuck
    | none => .stuck
end Mi
/-! Mini: what data is in the abstract heap; readings by runs. -/
namespace Mi
open PySem PySem.Spec PyProof.Rows L2
/-! ### data in the heap -/
/-- what a law has: tables of code objects, lambdas, classes -/
class Glb where
  T : PySem.W.Frag → List (Addr × Str)
  t : List Lam
  k : PySem.W.Frag → List Addr
variable [Glb]
/-- where the cells lie; what else is hidden -/
structure Fix where
  /-- hidden -/
  z : Addr → Prop
  /-- cells of frames that run -/
  x : Addr → Prop
  /-- tables of code objects -/
  T : List (Addr × Str)
  t : List Lam
  k : List Addr
structure Loc where
  l : List Addr
  f : Fix
def Loc.z (loc : Loc) (a : Addr) : Prop := loc.f.z a ∨ a ∈ loc.f.T.map (·.1)
def Loc.push (loc : Loc) (a : Addr) : Loc := ⟨loc.l ++ [a], loc.f⟩
def Live (m : MH) (loc : Loc) (a : Addr) : Prop := (∃ (n : Nat) (c : Cell), m[n]? = some c ∧ c ≠ Cell.dead ∧ loc.l[n]? = some a) ∨ loc.z a
def WrT (K : PySem.W.Frag) (a : Addr) (xs : List V) : Prop :=
  ∃ (o : Obj) (its : Array Value) (n : Nat), K.lookup a = some o ∧ o.cls = .type "tuple" ∧ o.data = .seq its n ∧ its.size ≤ sizeLine ∧ Vals xs its.toList
def WrL (K : PySem.W.Frag) (a : Addr) (xs : List V) : Prop :=
  ∃ (o : Obj) (its : Array Value) (n : Nat), K.lookup a = some o ∧ o.cls = .type "list" ∧ o.dict = none ∧ o.data = .seq its n ∧ its.size ≤ sizeLine ∧ Vals xs its.toList
mutual
inductive Rep (K : PySem.W.Frag) (H : Hp) (L : Addr → Prop) (loc : Loc) : V → D → Prop
  | non : Rep K H L loc .non .non
  | bl (b : Bool) : Rep K H L loc (.bl b) (.bl b)
  | int (i : Int) : Rep K H L loc (.int i) (.int i)
  | str (s : Str) : Rep K H L loc (.str s) (.str s)
  | tup {a : Addr} {vs : List V} {ds : List D} : ((Rd H a (.tup vs) ∧ ¬ L a) ∨ WrT K a vs) → vs.length ≤ LIM → Reps K H L loc vs ds → Rep K H L loc (.ref a) (.tup ds)
  | lst {a : Addr} {vs : List V} {ds : List D} : H a = some (.lst vs) → ¬ L a → vs.length ≤ LIM → Reps K H L loc vs ds → Rep K H L loc (.ref a) (.lst ds)
  | dic {a : Addr} {kvs : List (Key × V)} {ds : List (Key × D)} : H a = some (.dK kvs) → ¬ L a → RepK K H L loc kvs ds → Rep K H L loc (.ref a) (.dic ds)
  | scr {a : Addr} {ns : List Int} : ((Rd H a (.lst (ns.map V.int)) ∧ ¬ L a) ∨ WrL K a (ns.map V.int)) → ns.length ≤ LIM → Rep K H L loc (.ref a) (.scr ns)
  | ref {a : Addr} {n : Nat} : loc.l[n]? = some a → Rep K H L loc (.ref a) (.ref n)
  | cls {a : Addr} {k : Nat} : (Glb.k K)[k]? = some a → Rep K H L loc (.ref a) (.cls k)
inductive Reps (K : PySem.W.Frag) (H : Hp) (L : Addr → Prop) (loc : Loc) : List V → List D → Prop
  | nil : Reps K H L loc [] []
  | cons {v : V} {vs : List V} {d : D} {ds : List D} : Rep K H L loc v d → Reps K H L loc vs ds → Reps K H L loc (v :: vs) (d :: ds)
inductive RepK (K : PySem.W.Frag) (H : Hp) (L : Addr → Prop) (loc : Loc) : List (Key × V) → List (Key × D) → Prop
  | nil : RepK K H L loc [] []
  | cons {k : Key} {v : V} {vs : List (Key × V)} {d : D} {ds : List (Key × D)} : Rep K H L loc v d → RepK K H L loc vs ds → RepK K H L loc ((k, v) :: vs) ((k, d) :: ds)
end
/-- what is kept by a step -/
structure Kp (H : Hp) (L : Addr → Prop) (loc : Loc) (H' : Hp) (L' : Addr → Prop) (loc' : Loc) : Prop where
  pre : ∃ x, loc'.l = loc.l ++ x
  fx : loc'.f = loc.f
  hide : ∀ a, loc.f.z a → H' a = H a
  keep : ∀ a o, H a = some o → ¬ L a → H' a = some o ∧ ¬ L' a
  new : ∀ a, a ∈ loc'.l → a ∈ loc.l ∨ H a = none
  there : ∀ a o, H a = some o → ∃ o', H' a = some o'
theorem Kp.hid {H : Hp} {L : Addr → Prop} {loc : Loc} {H' : Hp} {L' : Addr → Prop} {loc' : Loc} (k : Kp H L loc H' L' loc') : loc'.z = loc.z := by
  funext a
  unfold Loc.z
  rw [k.fx]
theorem Kp.refl (H : Hp) (L : Addr → Prop) (loc : Loc) : Kp H L loc H L loc := ⟨⟨[], by simp⟩, rfl, fun _ _ => rfl, fun _ _ h n => ⟨h, n⟩, fun _ h => .inl h, fun _ o h => ⟨o, h⟩⟩
theorem Kp.back {H H' : Hp} {L L' : Addr → Prop} {l l' : Loc} (k : Kp H L l H' L' l') {a : Addr} (h : H' a = none) : H a = none := by
  cases q : H a with
  | none => rfl
  | some o =>
    obtain ⟨o', e⟩ := k.there a o q
    rw [h] at e
    cases e
theorem Kp.trans {H H1 H2 : Hp} {L L1 L2 : Addr → Prop} {l l1 l2 : Loc} (a : Kp H L l H1 L1 l1) (b : Kp H1 L1 l1 H2 L2 l2) : Kp H L l H2 L2 l2 := by
  obtain ⟨x, e⟩ := a.pre
  obtain ⟨y, e'⟩ := b.pre
  refine ⟨⟨x ++ y, by rw [e', e, List.append_assoc]⟩, b.fx.trans a.fx, fun c h => (b.hide c (by rw [a.fx]; exact h)).trans (a.hide c h), fun c o h n => ?_, fun c h => ?_, fun c o h => ?_⟩
  · obtain ⟨h1, n1⟩ := a.keep c o h n
    exact b.keep c o h1 n1
  · rcases b.new c h with h | h
    · exact a.new c h
    · exact .inr (a.back h)
  · obtain ⟨o1, h1⟩ := a.there c o h
    exact b.there c o1 h1
theorem Kp.rd {H H' : Hp} {L L' : Addr → Prop} {l l' : Loc} (k : Kp H L l H' L' l') {a : Addr} {u : HO} (h : Rd H a u) (n : ¬ L a) : Rd H' a u ∧ ¬ L' a := by
  rcases h with h | ⟨o, h⟩
  · exact ⟨.inl (k.keep a _ h n).1, (k.keep a _ h n).2⟩
  · exact ⟨.inr ⟨o, (k.keep a _ h n).1⟩, (k.keep a _ h n).2⟩
theorem Kp.at {H H' : Hp} {L L' : Addr → Prop} {l l' : Loc} (k : Kp H L l H' L' l') {n : Nat} {a : Addr} (h : l.l[n]? = some a) : l'.l[n]? = some a := by
  obtain ⟨x, e⟩ := k.pre
  rw [e, List.getElem?_append_left (List.getElem?_eq_some_iff.mp h).1]
  exact h
section
variable {K : PySem.W.Frag} {H H' : Hp} {L L' : Addr → Prop} {loc loc' : Loc}
mutual
theorem Rep.mono (k : Kp H L loc H' L' loc') : ∀ {v : V} {d : D}, Rep K H L loc v d → Rep K H' L' loc' v d
  | _, _, .non => .non
  | _, _, .bl b => .bl b
  | _, _, .int i => .int i
  | _, _, .str s => .str s
  | _, _, .tup h z r => .tup (h.imp (fun h => k.rd h.1 h.2) id) z (Reps.mono k r)
  | _, _, .lst h n z r => .lst (k.keep _ _ h n).1 (k.keep _ _ h n).2 z (Reps.mono k r)
  | _, _, .dic h n r => .dic (k.keep _ _ h n).1 (k.keep _ _ h n).2 (RepK.mono k r)
  | _, _, .scr h z => .scr (h.imp (fun h => k.rd h.1 h.2) id) z
  | _, _, .ref h => .ref (k.at h)
  | _, _, .cls h => .cls h
theorem Reps.mono (k : Kp H L loc H' L' loc') : ∀ {vs : List V} {ds : List D}, Reps K H L loc vs ds → Reps K H' L' loc' vs ds
  | _, _, .nil => .nil
  | _, _, .cons r t => .cons (Rep.mono k r) (Reps.mono k t)
theorem RepK.mono (k : Kp H L loc H' L' loc') : ∀ {vs : List (Key × V)} {ds : List (Key × D)}, RepK K H L loc vs ds → RepK K H' L' loc' vs ds
  | _, _, .nil => .nil
  | _, _, .cons r t => .cons (Rep.mono k r) (RepK.mono k t)
end
theorem Reps.length : ∀ {vs : List V} {ds : List D}, Reps K H L loc vs ds → vs.length = ds.length
  | _, _, .nil => rfl
  | _, _, .cons _ t => congrArg (· + 1) (Reps.length t)
theorem Reps.get : ∀ {vs : List V} {ds : List D} {i : Nat} {d : D}, Reps K H L loc vs ds → ds[i]? = some d → ∃ v, vs[i]? = some v ∧ Rep K H L loc v d
  | _, _, _, _, .nil, h => by simp at h
  | _, _, 0, _, .cons r _, h => by
    simp at h
    subst h
    exact ⟨_, rfl, r⟩
  | _, _, i + 1, d, .cons _ t, h => by
    obtain ⟨v, h1, h2⟩ := Reps.get (i := i) (d := d) t (by simpa using h)
    exact ⟨v, by simpa using h1, h2⟩
theorem Reps.getV : ∀ {vs : List V} {ds : List D} {i : Nat} {v : V}, Reps K H L loc vs ds → vs[i]? = some v → ∃ d, ds[i]? = some d ∧ Rep K H L loc v d
  | _, _, _, _, .nil, h => by simp at h
  | _, _, 0, _, .cons r _, h => by
    simp at h
    subst h
    exact ⟨_, rfl, r⟩
  | _, _, i + 1, v, .cons _ t, h => by
    obtain ⟨d, h1, h2⟩ := Reps.getV (i := i) (v := v) t (by simpa using h)
    exact ⟨d, by simpa using h1, h2⟩
theorem Reps.append : ∀ {vs ws : List V} {ds es : List D}, Reps K H L loc vs ds → Reps K H L loc ws es → Reps K H L loc (vs ++ ws) (ds ++ es)
  | _, _, _, _, .nil, s => s
  | _, _, _, _, .cons r t, s => .cons r (Reps.append t s)
theorem Reps.drop : ∀ {vs : List V} {ds : List D} (n : Nat), Reps K H L loc vs ds → Reps K H L loc (vs.drop n) (ds.drop n)
  | _, _, 0, r => r
  | _, _, _ + 1, .nil => .nil
  | _, _, n + 1, .cons _ t => Reps.drop n t
theorem Reps.take : ∀ {vs : List V} {ds : List D} (n : Nat), Reps K H L loc vs ds → Reps K H L loc (vs.take n) (ds.take n)
  | _, _, 0, _ => .nil
  | _, _, _ + 1, .nil => .nil
  | _, _, n + 1, .cons r t => .cons r (Reps.take n t)
theorem Reps.set {v : V} {d : D} (r : Rep K H L loc v d) : ∀ {vs : List V} {ds : List D} (i : Nat), Reps K H L loc vs ds → Reps K H L loc (vs.set i v) (ds.set i d)
  | _, _, _, .nil => .nil
  | _, _, 0, .cons _ t => .cons r t
  | _, _, i + 1, .cons q t => .cons q (Reps.set r i t)
theorem Reps.dropLast : ∀ {vs : List V} {ds : List D}, Reps K H L loc vs ds → Reps K H L loc vs.dropLast ds.dropLast := fun {vs ds} r => by
  rw [List.dropLast_eq_take, List.dropLast_eq_take, r.length]
  exact r.take _
theorem Reps.rep {vs : List V} {ds : List D} (r : Reps K H L loc vs ds) : ∀ n : Nat, Reps K H L loc (List.replicate n vs).flatten (List.replicate n ds).flatten
  | 0 => .nil
  | n + 1 => by
    rw [List.replicate_succ, List.replicate_succ, List.flatten_cons, List.flatten_cons]
    exact r.append (Reps.rep r n)
theorem Reps.ints : ∀ ns : List Int, Reps K H L loc (ns.map V.int) (ns.map D.int)
  | [] => .nil
  | i :: r => .cons (.int i) (Reps.ints r)
theorem Reps.strs : ∀ ns : List Str, Reps K H L loc (ns.map V.str) (ns.map D.str)
  | [] => .nil
  | i :: r => .cons (.str i) (Reps.strs r)
theorem Reps.intsOf : ∀ {vs : List V} {ds : List D} {ns : List Int}, Reps K H L loc vs ds → intsOf ds = some ns → vs = ns.map V.int
  | _, _, _, .nil, h => by
    cases h
    rfl
  | _, _, ns, .cons (d := d) (ds := ds) r t, h => by
    cases r <;> first
      | (cases h; done)
      | (rename_i i
         have h' : (Mi.intsOf ds).map (i :: ·) = some ns := h
         obtain ⟨ms, e, e'⟩ := Option.map_eq_some_iff.mp h'
         subst e'
         rw [Reps.intsOf t e]
         rfl)
theorem Reps.strsOf : ∀ {vs : List V} {ds : List D} {ns : List Str}, Reps K H L loc vs ds → strsOf ds = some ns → vs = ns.map V.str
  | _, _, _, .nil, h => by
    cases h
    rfl
  | _, _, ns, .cons (d := d) (ds := ds) r t, h => by
    cases r <;> first
      | (cases h; done)
      | (rename_i i
         have h' : (Mi.strsOf ds).map (i :: ·) = some ns := h
         obtain ⟨ms, e, e'⟩ := Option.map_eq_some_iff.mp h'
         subst e'
         rw [Reps.strsOf t e]
         rfl)
theorem Reps.blsOf : ∀ {vs : List V} {ds : List D} {ns : List Bool}, Reps K H L loc vs ds → blsOf ds = some ns → vs = ns.map V.bl
  | _, _, _, .nil, h => by
    cases h
    rfl
  | _, _, ns, .cons (d := d) (ds := ds) r t, h => by
    cases r <;> first
      | (cases h; done)
      | (rename_i i
         have h' : (Mi.blsOf ds).map (i :: ·) = some ns := h
         obtain ⟨ms, e, e'⟩ := Option.map_eq_some_iff.mp h'
         subst e'
         rw [Reps.blsOf t e]
         rfl)
/-- a tuple, a list that is read -/
theorem tupS {a : Addr} {vs : List V} (h : (Rd H a (.tup vs) ∧ ¬ L a) ∨ WrT K a vs) : SqT K H a vs := h.imp And.left id
theorem scrS {a : Addr} {vs : List V} (h : (Rd H a (.lst vs) ∧ ¬ L a) ∨ WrL K a vs) : SqL K H a vs := h.imp And.left id
end
/-! ### the state -/
def CapR (K : PySem.W.Frag) (H : Hp) (L : Addr → Prop) (loc : Loc) (cl : List (Str × Addr)) (b : Bool) : List Str → List D → Prop
  | [], [] => True
  | y :: ys, d :: ds => (∃ (c : Addr) (oc : Obj) (u : Value) (v : V), cl.lookup y = some c ∧ H c = some (.frz oc TT0) ∧ (¬ L c ∧ c ∉ loc.l) ∧ (b = false → ¬ loc.f.x c) ∧ oc.data = .cell (some u) ∧ RelV v u ∧ Rep K H L loc v d) ∧ CapR K H L loc cl b ys ds
  | _, _ => False
/-- the closure at a, its cells known -/
structure CloR (K : PySem.W.Frag) (H : Hp) (L : Addr → Prop) (loc : Loc) (a : Addr) (i : Nat) (ds : List D) (b : Bool) : Prop where
  ex : ∃ (lam : Lam) (cl : List (Str × Addr)) (pm ctv : Value) (c' : Addr), loc.f.t[i]? = some lam ∧ H a = some (.frz (lam.obj cl pm c' ctv) TT0) ∧ H c' = some (LamX.CodeO c' lam.q) ∧ ¬ L c' ∧
    (∀ x y c, cl.lookup x = some c → cl.lookup y = some c → x = y) ∧ (∀ y, lam.scope.names.lookup y = some .free → y ∈ lam.N.drop lam.ps.length) ∧ (∀ y c, cl.lookup y = some c → y ∈ lam.N.drop lam.ps.length) ∧ (∀ y ∈ lam.N.drop lam.ps.length, lam.scope.names.lookup y = some .free) ∧ CapR K H L loc cl b (lam.N.drop lam.ps.length) ds
def RepF (K : PySem.W.Frag) (H : Hp) (L : Addr → Prop) (loc : Loc) : List (Str × V) → List (Str × D) → Prop
  | [], [] => True
  | (x, v) :: vs, (y, d) :: ds => x = y ∧ Rep K H L loc v d ∧ RepF K H L loc vs ds
  | _, _ => False
def CellR (K : PySem.W.Frag) (H : Hp) (L : Addr → Prop) (loc : Loc) (a : Addr) : Cell → Prop
  | .lst ds => ∃ vs, H a = some (.lst vs) ∧ vs.length ≤ LIM ∧ Reps K H L loc vs ds
  | .dic ds => ∃ kvs, H a = some (.dK kvs) ∧ RepK K H L loc kvs ds
  | .clo i ds b => CloR K H L loc a i ds b
  | .ins k fs => ∃ C dx vs, loc.f.k[k]? = some C ∧ H a = some (.ins C dx vs) ∧ RepF K H L loc vs fs
  | .dead => True
structure FixIs (K : PySem.W.Frag) (f : Fix) : Prop where
  T : f.T = Glb.T K
  t : f.t = Glb.t
  k : f.k = Glb.k K
structure Sim (K : PySem.W.Frag) (H : Hp) (m : MH) (loc : Loc) : Prop where
  len : loc.l.length = m.length
  nd : loc.l.Nodup
  old : ∀ a ∈ loc.l, ∃ o, H a = some o
  hid : ∀ a, loc.z a → ∃ o, H a = some o
  apart : ∀ a ∈ loc.l, ¬ loc.z a
  tab : ∀ p ∈ loc.f.T, LamX.TabS H p.1 p.2
  xs : ∀ a, loc.f.x a → ∃ o, H a = some (.frz o TT0)
  fi : FixIs K loc.f
  hk : ∀ a, loc.f.z a → ∃ xs, H a = some (.lst xs)
  cell : ∀ (n : Nat) (c : Cell) (a : Addr), m[n]? = some c → loc.l[n]? = some a → CellR K H (Live m loc) loc a c
/-- a state at which a run stands -/
abbrev RepM (K : PySem.W.Frag) (H : Hp) (m : MH) (loc : Loc) : V → D → Prop := Rep K H (Live m loc) loc
abbrev KpM (H : Hp) (m : MH) (loc : Loc) (H' : Hp) (m' : MH) (loc' : Loc) : Prop := Kp H (Live m loc) loc H' (Live m' loc') loc'
structure EnvR (K : PySem.W.Frag) (H : Hp) (L : Addr → Prop) (loc : Loc) (σ : L2.St) (env : Env) : Prop where
  len : σ.length = env.length
  at_ : ∀ (i : Nat) (d : D), env[i]? = some (some d) → ∃ v, σ[i]? = some (some v) ∧ Rep K H L loc v d
theorem EnvR.mono {K : PySem.W.Frag} {H H' : Hp} {L L' : Addr → Prop} {l l' : Loc} {σ : L2.St} {env : Env} (e : EnvR K H L l σ env) (k : Kp H L l H' L' l') : EnvR K H' L' l' σ env :=
  ⟨e.len, fun i d h => let ⟨v, h1, h2⟩ := e.at_ i d h; ⟨v, h1, h2.mono k⟩⟩
theorem EnvR.set {K : PySem.W.Frag} {H : Hp} {L : Addr → Prop} {l : Loc} {σ : L2.St} {env : Env} (e : EnvR K H L l σ env) {v : V} {d : D} (r : Rep K H L l v d) (i : Nat) : EnvR K H L l (σ.set i (some v)) (env.set i (some d)) := by
  refine ⟨by rw [List.length_set, List.length_set, e.len], fun j x h => ?_⟩
  by_cases q : i = j
  · subst q
    by_cases hi : i < env.length
    · rw [List.getElem?_set_self hi] at h
      cases h
      exact ⟨v, List.getElem?_set_self (by rw [e.len]; exact hi), r⟩
    · rw [List.getElem?_eq_none (by rw [List.length_set]; omega)] at h
      cases h
  · rw [List.getElem?_set_ne q] at h ⊢
    exact e.at_ j x h
/-- what stays fixed: the written part, what an exception is -/
structure Gam where
  K : PySem.W.Frag
  XR : Ex → Value → Option Addr → Hp → Prop
  up : ∀ (x : Ex) (c : Value) (d : Option Addr) (H : Hp) (O : List (Addr × Obj)), (∀ b o, O.lookup b = some o → H b = none) → XR x c d H → XR x c d (ov O H)
  dn : ∀ (x : Ex) (c : Value) (d : Option Addr) (H : Hp) (O : List (Addr × Obj)), XR x c d (ov O H) → XR x c d H
/-- what a run's end wants -/
def Po (Γ : Gam) (W : Value → Option Addr → Hp → Prop) (H : Hp) (m : MH) (loc : Loc) {α β : Type} (Rl : Hp → MH → Loc → β → α → Prop) (r : R α) (Q : β → Hp → Prop) : Prop := match r with
  | .ok d m' => ∀ v H' loc', Sim Γ.K H' m' loc' → KpM H m loc H' m' loc' → Rl H' m' loc' v d → Q v H'
  | .exc x m' => ∀ H' loc', Sim Γ.K H' m' loc' → KpM H m loc H' m' loc' → ∀ cls d, Γ.XR x cls d H' → W cls d H'
  | .stuck => False
section
variable {Γ : Gam} {W : Value → Option Addr → Hp → Prop} {H : Hp} {m : MH} {loc : Loc} {α β γ δ : Type} {Rl : Hp → MH → Loc → β → α → Prop} {Rl' : Hp → MH → Loc → δ → γ → Prop}
theorem Po.imp {r : R α} {Q Q' : β → Hp → Prop} (p : Po Γ W H m loc Rl r Q) (h : ∀ v H', Q v H' → Q' v H') : Po Γ W H m loc Rl r Q' := by
  cases r with
  | ok d m' => exact fun v H' l s k r => h _ _ (p v H' l s k r)
  | exc x m' => exact p
  | stuck => exact p
/-- the state behind a step -/
theorem Po.step {r : R α} {k : α → MH → R γ} {Q : δ → Hp → Prop} (p : Po Γ W H m loc Rl' (r.bind k) Q) :
    Po Γ W H m loc Rl r fun v H1 => ∃ d m1 loc1, r = .ok d m1 ∧ Sim Γ.K H1 m1 loc1 ∧ KpM H m loc H1 m1 loc1 ∧ Rl H1 m1 loc1 v d ∧ Po Γ W H1 m1 loc1 Rl' (k d m1) Q := by
  cases r with
  | ok d m' =>
    intro v H1 l1 s1 k1 r1
    refine ⟨d, m', l1, rfl, s1, k1, r1, ?_⟩
    have p' : Po Γ W H m loc Rl' (k d m') Q := p
    cases e : k d m' with
    | ok d2 m2 =>
      rw [e] at p'
      exact fun v H' l' s' k' r' => p' v H' l' s' (k1.trans k') r'
    | exc x m2 =>
      rw [e] at p'
      exact fun H' l' s' k' => p' H' l' s' (k1.trans k')
    | stuck =>
      rw [e] at p'
      exact p'
  | exc x m' => exact p
  | stuck => exact p
theorem Po.ret {d : α} {m : MH} {Q : β → Hp → Prop} (p : Po Γ W H m loc Rl (.ok d m) Q) {v : β} (s : Sim Γ.K H m loc) (r : Rl H m loc v d) : Q v H := p v H loc s (Kp.refl _ _ _) r
theorem Po.ofO {o : Option α} {Q : β → Hp → Prop} (p : Po Γ W H m loc Rl (ofO o m) Q) : ∃ d, o = some d ∧ Po Γ W H m loc Rl (.ok d m) Q := by
  cases o with
  | none => exact (show False from p).elim
  | some d => exact ⟨d, rfl, p⟩
end
/-! ### readings -/
def rlD (Γ : Gam) : Hp → MH → Loc → V → D → Prop := fun H m loc v d => RepM Γ.K H m loc v d
def rlB : Hp → MH → Loc → Bool → Bool → Prop := fun _ _ _ v d => v = d
def rlA (Γ : Gam) : Hp → MH → Loc → List V → List D → Prop := fun H m loc v d => Reps Γ.K H (Live m loc) loc v d
def rlI : Hp → MH → Loc → Option Int → Option Int → Prop := fun _ _ _ v d => v = d
def At (Γ : Gam) (σ : L2.St) (H : Hp) (env : Env) (m : MH) (loc : Loc) : Prop := Sim Γ.K H m loc ∧ EnvR Γ.K H (Live m loc) loc σ env
theorem At.go {Γ : Gam} {σ : L2.St} {H H' : Hp} {env : Env} {m m' : MH} {loc loc' : Loc} (a : At Γ σ H env m loc) (s : Sim Γ.K H' m' loc') (k : KpM H m loc H' m' loc') : At Γ σ H' env m' loc' := ⟨s, a.2.mono k⟩
def tR (Γ : Gam) (W : WX) {α β : Type} (Rl : Hp → MH → Loc → β → α → Prop) (ev : Env → MH → R α) : L2.St → Hp → (β → Hp → Prop) → Prop := fun σ H Q =>
  ∃ env m loc, At Γ σ H env m loc ∧ Po Γ (fun c d H => W c d σ H) H m loc Rl (ev env m) Q
abbrev tE (Γ : Gam) (W : WX) (ev : Env → MH → R D) : TE := tR Γ W (rlD Γ) ev
abbrev tT (Γ : Gam) (W : WX) (ev : Env → MH → R Bool) : TT := tR Γ W rlB ev
abbrev tA (Γ : Gam) (W : WX) (ev : Env → MH → R (List D)) : TA := tR Γ W (rlA Γ) ev
abbrev tP (Γ : Gam) (W : WX) (ev : Env → MH → R (Option Int)) : TO := tR Γ W rlI ev
def SE (Γ : Gam) (X : Cx) (e : Expr) (ev : Env → MH → R D) : Prop := ∀ W : WX, L2N.Takes X W → PE X e (tE Γ W ev)
def ST (Γ : Gam) (X : Cx) (e : Expr) (ev : Env → MH → R Bool) : Prop := ∀ W : WX, L2N.Takes X W → PT X e (tT Γ W ev)
def SA (Γ : Gam) (X : Cx) (es : List Expr) (ev : Env → MH → R (List D)) : Prop := ∀ W : WX, L2N.Takes X W → PA X es (tA Γ W ev)
theorem wkE {X : Cx} {e : Expr} {t t' : TE} (h : PE X e t) (w : ∀ σ H Q, t' σ H Q → t σ H Q) : PE X e t' := ⟨fun pins s σ H Q I hw => h.run pins s σ H Q I (w σ H Q hw)⟩
theorem wkT {X : Cx} {e : Expr} {t t' : TT} (h : PT X e t) (w : ∀ σ H Q, t' σ H Q → t σ H Q) : PT X e t' := ⟨fun pins s σ H Q I hw => h.run pins s σ H Q I (w σ H Q hw)⟩
theorem wkA {X : Cx} {e : List Expr} {t t' : TA} (h : PA X e t) (w : ∀ σ H Q, t' σ H Q → t σ H Q) : PA X e t' := ⟨fun pos pins s σ H Q I hw => h.run pos pins s σ H Q I (w σ H Q hw)⟩
theorem wkP {X : Cx} {e : Option Expr} {t t' : TO} (h : PO X e t) (w : ∀ σ H Q, t' σ H Q → t σ H Q) : PO X e t' := ⟨fun pins s σ H Q I hw => h.run pins s σ H Q I (w σ H Q hw)⟩
/-- one step of a run, as a sub-reading asks it -/
theorem sub {Γ : Gam} {W : WX} {α β γ δ : Type} {Rl : Hp → MH → Loc → β → α → Prop} {Rl' : Hp → MH → Loc → δ → γ → Prop} {ev : Env → MH → R α} {σ : L2.St} {H : Hp} {env : Env} {m : MH} {loc : Loc} {k : α → MH → R γ} {Q : δ → Hp → Prop} {Q' : β → Hp → Prop}
    (a : At Γ σ H env m loc) (p : Po Γ (fun c d H => W c d σ H) H m loc Rl' ((ev env m).bind k) Q)
    (h : ∀ v H1 d m1 loc1, ev env m = .ok d m1 → At Γ σ H1 env m1 loc1 → KpM H m loc H1 m1 loc1 → Rl H1 m1 loc1 v d → Po Γ (fun c d H => W c d σ H) H1 m1 loc1 Rl' (k d m1) Q → Q' v H1) :
    tR Γ W Rl ev σ H Q' :=
  ⟨env, m, loc, a, (Po.step (Rl := Rl) p).imp fun v H1 ⟨d, m1, loc1, e, s, k1, r, p1⟩ => h v H1 d m1 loc1 e (a.go s k1) k1 r p1⟩
end Mi
/-! Mini: operations over the abstract heap. -/
namespace Mi
open PySem PySem.Spec PyProof.Rows L2
variable [Glb]
section
variable {K : PySem.W.Frag} {H : Hp} {m : MH} {loc : Loc} {a p : Addr} {o : HO} {n : Nat}
theorem LIM_eq : LIM = sizeLine := by rw [sizeLine_eq]; rfl
theorem lim_le {k : Nat} (h : k ≤ LIM) : k ≤ sizeLine := by rw [← LIM_eq]; exact h
theorem lim_lt {k : Nat} (h : k < LIM) : k < sizeLine := by rw [← LIM_eq]; exact h
theorem Sim.no (s : Sim K H m loc) (h : H p = none) : ¬ Live m loc p := fun l => by
  rcases l with ⟨n, c, _, _, e⟩ | l
  · obtain ⟨o, q⟩ := s.old p (List.mem_of_getElem? e)
    rw [h] at q
    cases q
  · obtain ⟨o, q⟩ := s.hid p l
    rw [h] at q
    cases q
theorem Sim.nz (s : Sim K H m loc) (h : H p = none) {b : Addr} (e : loc.z b) : b ≠ p := fun q => by
  obtain ⟨o, z⟩ := s.hid b e
  rw [q, h] at z
  cases z
theorem Sim.ne (s : Sim K H m loc) (h : H p = none) {b : Addr} (e : b ∈ loc.l) : b ≠ p := fun q => by
  obtain ⟨o, z⟩ := s.old b e
  rw [q, h] at z
  cases z
theorem Sim.zt (s : Sim K H m loc) : ∀ a, loc.f.z a → ∀ p ∈ loc.f.T, p.1 ≠ a := fun a z p hp w => by
  obtain ⟨xs, e⟩ := s.hk a z
  obtain ⟨ps, e2, _⟩ := s.tab p hp
  rw [w, e] at e2
  cases e2
theorem kp_new (h : H p = none) (s : Sim K H m loc) : KpM H m loc (upd H p o) m loc :=
  ⟨⟨[], by simp⟩, rfl, fun a z => upd_ne (s.nz h (.inl z)), fun a u e nl => ⟨by rw [upd_ne (ne_of_none e h)]; exact e, nl⟩, fun _ h => .inl h, fun a u e => ⟨u, by rw [upd_ne (ne_of_none e h)]; exact e⟩⟩
theorem ne_of_none_ {c : Addr} {u : HO} (h : H c = some u) (h2 : H c = none) : False := by
  rw [h] at h2
  cases h2
theorem CapR.mono {H' : Hp} {L L' : Addr → Prop} {loc' : Loc} {cl : List (Str × Addr)} {b : Bool} (k : Kp H L loc H' L' loc') : ∀ {ys : List Str} {ds : List D}, CapR K H L loc cl b ys ds → CapR K H' L' loc' cl b ys ds
  | [], [], _ => True.intro
  | [], _ :: _, h => h.elim
  | _ :: _, [], h => h.elim
  | y :: ys, d :: ds, ⟨⟨c, oc, u, v, h1, h2, h3, h4, h5, h6, h7⟩, t⟩ => ⟨⟨c, oc, u, v, h1, (k.keep _ _ h2 h3.1).1, ⟨(k.keep _ _ h2 h3.1).2, fun z => (k.new c z).elim h3.2 (ne_of_none_ h2)⟩, fun e => by rw [k.fx]; exact h4 e, h5, h6, h7.mono k⟩, CapR.mono k t⟩
theorem CloR.keep {H' : Hp} {L L' : Addr → Prop} {loc' : Loc} {i : Nat} {ds : List D} {b : Bool} (k : Kp H L loc H' L' loc') (e : H' a = H a) (r : CloR K H L loc a i ds b) : CloR K H' L' loc' a i ds b := by
  obtain ⟨lam, cl, pm, ctv, c', h1, h2, h3, h4, h5, h6, h7, h8, h9⟩ := r.ex
  exact ⟨lam, cl, pm, ctv, c', by rw [k.fx]; exact h1, e.trans h2, (k.keep _ _ h3 h4).1, (k.keep _ _ h3 h4).2, h5, h6, h7, h8, h9.mono k⟩
theorem RepF.mono {H' : Hp} {L L' : Addr → Prop} {loc' : Loc} (k : Kp H L loc H' L' loc') : ∀ {vs : List (Str × V)} {ds : List (Str × D)}, RepF K H L loc vs ds → RepF K H' L' loc' vs ds
  | [], [], _ => True.intro
  | [], _ :: _, h => h.elim
  | _ :: _, [], h => h.elim
  | (_, _) :: vs, (_, _) :: ds, ⟨h1, h2, t⟩ => ⟨h1, h2.mono k, RepF.mono k t⟩
theorem CellR.keep {H' : Hp} {m' : MH} {loc' : Loc} {c : Cell} (k : KpM H m loc H' m' loc') (e : H' a = H a) (r : CellR K H (Live m loc) loc a c) : CellR K H' (Live m' loc') loc' a c := by
  cases c with
  | lst ds =>
    obtain ⟨vs, h, z, r⟩ := r
    exact ⟨vs, e.trans h, z, r.mono k⟩
  | dic ds =>
    obtain ⟨kvs, h, r⟩ := r
    exact ⟨kvs, e.trans h, r.mono k⟩
  | clo i ds b => exact CloR.keep k e r
  | ins n fs =>
    obtain ⟨C, dx, vs, h1, h2, r⟩ := r
    exact ⟨C, dx, vs, by rw [k.fx]; exact h1, e.trans h2, r.mono k⟩
  | dead => exact True.intro
theorem upd_new (h : H p = none) : ∀ b u, H b = some u → upd H p o b = some u := fun b u e => by
  rw [upd_ne (ne_of_none e h)]
  exact e
/-- a new object -/
theorem Sim.new (s : Sim K H m loc) (h : H p = none) : Sim K (upd H p o) m loc :=
  ⟨s.len, s.nd, fun a e => by
    obtain ⟨u, q⟩ := s.old a e
    exact ⟨u, by rw [upd_ne (s.ne h e)]; exact q⟩, fun a e => by
    obtain ⟨u, q⟩ := s.hid a e
    exact ⟨u, by rw [upd_ne (s.nz h e)]; exact q⟩, s.apart, fun p hp => (s.tab p hp).ext (upd_new h), fun a x => let ⟨u, e⟩ := s.xs a x; ⟨u, upd_new h _ _ e⟩, s.fi, fun a z => let ⟨u, e⟩ := s.hk a z; ⟨u, upd_new h _ _ e⟩, fun n c a e1 e2 => (s.cell n c a e1 e2).keep (kp_new h s) (by rw [upd_ne (s.ne h (List.mem_of_getElem? e2))])⟩
/-- a new cell -/
theorem live_push {c : Cell} {b : Addr} (s : Sim K H m loc) : Live (m ++ [c]) (loc.push p) b → Live m loc b ∨ b = p := fun l => by
  rcases l with ⟨n, c', e1, nd, e2⟩ | l
  · have e2 : (loc.l ++ [p])[n]? = some b := e2
    have hl := s.len
    by_cases q : n < m.length
    · rw [List.getElem?_append_left q] at e1
      rw [List.getElem?_append_left (by omega)] at e2
      exact .inl (.inl ⟨n, c', e1, nd, e2⟩)
    · rw [List.getElem?_append_right (by omega)] at e2
      have z : n - loc.l.length = 0 := by
        have hlt := (List.getElem?_eq_some_iff.mp e2).1
        simp only [List.length_cons, List.length_nil] at hlt
        omega
      rw [z] at e2
      exact .inr (Option.some.inj e2).symm
  · exact .inl (.inr l)
theorem kp_push {c : Cell} (s : Sim K H m loc) (h : H p = none) : KpM H m loc (upd H p o) (m ++ [c]) (loc.push p) :=
  ⟨⟨[p], rfl⟩, rfl, fun a z => upd_ne (s.nz h (.inl z)), fun a u e nl => ⟨by rw [upd_ne (ne_of_none e h)]; exact e, fun l => (live_push s l).elim nl (ne_of_none e h)⟩, fun a h' => (List.mem_append.mp h').elim .inl fun q => .inr (by
    have q : a = p := by simpa using q
    rw [q]
    exact h), fun a u e => ⟨u, by rw [upd_ne (ne_of_none e h)]; exact e⟩⟩
theorem Sim.push {c : Cell} (s : Sim K H m loc) (h : H p = none) (hc : CellR K (upd H p o) (Live (m ++ [c]) (loc.push p)) (loc.push p) p c) : Sim K (upd H p o) (m ++ [c]) (loc.push p) := by
  have hl := s.len
  refine ⟨by simp [Loc.push, hl], ?_, fun a e => ?_, fun a e => ?_, fun a e => ?_, fun p hp => (s.tab p hp).ext (upd_new h), fun a x => let ⟨u, e⟩ := s.xs a x; ⟨u, upd_new h _ _ e⟩, s.fi, fun a z => let ⟨u, e⟩ := s.hk a z; ⟨u, upd_new h _ _ e⟩, fun n c' a e1 e2 => ?_⟩
  · show (loc.l ++ [p]).Nodup
    rw [List.nodup_append]
    refine ⟨s.nd, by simp, fun a ha b hb => ?_⟩
    have e : b = p := by simpa using hb
    rw [e]
    exact s.ne h ha
  · rcases List.mem_append.mp e with e | e
    · obtain ⟨u, q⟩ := s.old a e
      exact ⟨u, by rw [upd_ne (s.ne h e)]; exact q⟩
    · have e : a = p := by simpa using e
      subst e
      exact ⟨o, upd_same⟩
  · obtain ⟨u, q⟩ := s.hid a e
    exact ⟨u, by rw [upd_ne (s.nz h e)]; exact q⟩
  · rcases List.mem_append.mp e with e | e
    · exact s.apart a e
    · have e : a = p := by simpa using e
      subst e
      exact fun z => s.nz h z rfl
  · have e2 : (loc.l ++ [p])[n]? = some a := e2
    by_cases q : n < m.length
    · rw [List.getElem?_append_left q] at e1
      rw [List.getElem?_append_left (by omega)] at e2
      exact (s.cell n c' a e1 e2).keep (kp_push s h) (by rw [upd_ne (s.ne h (List.mem_of_getElem? e2))])
    · rw [List.getElem?_append_right (by omega)] at e2
      have z : n - loc.l.length = 0 := by
        have hlt := (List.getElem?_eq_some_iff.mp e2).1
        simp only [List.length_cons, List.length_nil] at hlt
        omega
      rw [List.getElem?_append_right (by omega), show n - m.length = 0 by omega] at e1
      rw [z] at e2
      cases e1
      cases e2
      exact hc
theorem push_at (s : Sim K H m loc) : (loc.push p).l[m.length]? = some p := by
  show (loc.l ++ [p])[m.length]? = some p
  rw [List.getElem?_append_right (by rw [s.len]; exact Nat.le_refl _), s.len]
  simp
theorem nodup_at {l : List Addr} (nd : l.Nodup) {i j : Nat} {a : Addr} (h1 : l[i]? = some a) (h2 : l[j]? = some a) : i = j := by
  obtain ⟨a1, e1⟩ := List.getElem?_eq_some_iff.mp h1
  obtain ⟨a2, e2⟩ := List.getElem?_eq_some_iff.mp h2
  exact (List.getElem_inj nd).mp (e1.trans e2.symm)
theorem live_set {c c0 : Cell} {b : Addr} (h0 : m[n]? = some c0) (hd : c0 ≠ .dead) : Live (m.set n c) loc b → Live m loc b := fun l => by
  rcases l with ⟨i, c', e1, nd, e2⟩ | l
  · by_cases q : n = i
    · subst q
      exact .inl ⟨n, c0, h0, hd, e2⟩
    · rw [List.getElem?_set_ne q] at e1
      exact .inl ⟨i, c', e1, nd, e2⟩
  · exact .inr l
/-- a live cell is written (or dies) -/
theorem kp_put {c c0 : Cell} (s : Sim K H m loc) (h0 : m[n]? = some c0) (hd : c0 ≠ .dead) (hl : loc.l[n]? = some a) : KpM H m loc (upd H a o) (m.set n c) loc :=
  ⟨⟨[], by simp⟩, rfl, fun b z => upd_ne (fun q => s.apart a (List.mem_of_getElem? hl) (q ▸ .inl z)), fun b u e nl => ⟨by
    rw [upd_ne (fun q => nl (.inl ⟨n, c0, h0, hd, by rw [q]; exact hl⟩))]
    exact e, fun l => nl (live_set h0 hd l)⟩, fun _ h => .inl h, fun b u e => by
    by_cases q : b = a
    · rw [q]
      exact ⟨o, upd_same⟩
    · exact ⟨u, by rw [upd_ne q]; exact e⟩⟩
theorem Sim.kind {c0 : Cell} (s : Sim K H m loc) (h0 : m[n]? = some c0) (hd : c0 ≠ .dead) (hl : loc.l[n]? = some a) (hk : isClo c0 = false) : (∀ φ, H a ≠ some (.ext φ)) ∧ (∀ o u, H a ≠ some (.frz o u)) := by
  have r := s.cell n c0 a h0 hl
  cases c0 with
  | lst ds =>
    obtain ⟨vs, h, _⟩ := r
    exact ⟨(fun φ z => by rw [h] at z; cases z), (fun o u z => by rw [h] at z; cases z)⟩
  | dic ds =>
    obtain ⟨vs, h, _⟩ := r
    exact ⟨(fun φ z => by rw [h] at z; cases z), (fun o u z => by rw [h] at z; cases z)⟩
  | ins k fs =>
    obtain ⟨_, _, vs, _, h, _⟩ := r
    exact ⟨(fun φ z => by rw [h] at z; cases z), (fun o u z => by rw [h] at z; cases z)⟩
  | clo i ds b => cases hk
  | dead => exact absurd rfl hd
theorem tab_put {b : Addr} {q : Str} (h1 : a ≠ b) (h2 : ∀ φ, H a ≠ some (.ext φ)) (t : LamX.TabS H b q) : LamX.TabS (upd H a o) b q := by
  obtain ⟨ps, e1, e2, e3⟩ := t
  refine ⟨ps, by rw [upd_ne (Ne.symm h1)]; exact e1, e2, fun pos cv hc => ?_⟩
  obtain ⟨c, f1, f2⟩ := e3 pos cv hc
  exact ⟨c, f1, by rw [upd_ne (fun z => h2 _ (by rw [← z]; exact f2))]; exact f2⟩
theorem Sim.put {c c0 : Cell} (s : Sim K H m loc) (h0 : m[n]? = some c0) (hd : c0 ≠ .dead) (hl : loc.l[n]? = some a) (hc : CellR K (upd H a o) (Live (m.set n c) loc) loc a c) (hk : isClo c0 = false := by rfl) : Sim K (upd H a o) (m.set n c) loc := by
  obtain ⟨kd1, kd2⟩ := s.kind h0 hd hl hk
  refine ⟨by rw [List.length_set]; exact s.len, s.nd, fun b e => ?_, fun b e => ?_, s.apart, fun p hp => tab_put (fun z => s.apart a (List.mem_of_getElem? hl) (.inr (List.mem_map.mpr ⟨p, hp, z.symm⟩))) kd1 (s.tab p hp), fun b x => let ⟨u, e⟩ := s.xs b x; ⟨u, by rw [upd_ne (fun z => kd2 _ _ (by rw [← z]; exact e))]; exact e⟩, s.fi, fun b z => let ⟨u, e⟩ := s.hk b z; ⟨u, by rw [upd_ne (fun w => s.apart a (List.mem_of_getElem? hl) (.inl (by rw [← w]; exact z)))]; exact e⟩, fun i c' b e1 e2 => ?_⟩
  · by_cases q : b = a
    · subst q
      exact ⟨o, upd_same⟩
    · obtain ⟨u, z⟩ := s.old b e
      exact ⟨u, by rw [upd_ne q]; exact z⟩
  · by_cases q : b = a
    · subst q
      exact ⟨o, upd_same⟩
    · obtain ⟨u, z⟩ := s.hid b e
      exact ⟨u, by rw [upd_ne q]; exact z⟩
  · by_cases q : n = i
    · subst q
      have hlt := (List.getElem?_eq_some_iff.mp h0).1
      rw [List.getElem?_set_self hlt] at e1
      cases e1
      rw [hl] at e2
      cases e2
      exact hc
    · rw [List.getElem?_set_ne q] at e1
      refine (s.cell i c' b e1 e2).keep (kp_put s h0 hd hl) ?_
      rw [upd_ne (fun z => q (nodup_at s.nd hl (by rw [← z]; exact e2)))]
theorem kp_die {c0 : Cell} (h0 : m[n]? = some c0) (hd : c0 ≠ .dead) : KpM H m loc H (m.set n .dead) loc :=
  ⟨⟨[], by simp⟩, rfl, fun _ _ => rfl, fun b u e nl => ⟨e, fun l => nl (live_set h0 hd l)⟩, fun _ h => .inl h, fun _ u e => ⟨u, e⟩⟩
theorem Sim.die {c0 : Cell} (s : Sim K H m loc) (h0 : m[n]? = some c0) (hd : c0 ≠ .dead) : Sim K H (m.set n .dead) loc := by
  refine ⟨by rw [List.length_set]; exact s.len, s.nd, s.old, s.hid, s.apart, s.tab, s.xs, s.fi, s.hk, fun i c' b e1 e2 => ?_⟩
  by_cases q : n = i
  · subst q
    have hlt := (List.getElem?_eq_some_iff.mp h0).1
    rw [List.getElem?_set_self hlt] at e1
    cases e1
    exact True.intro
  · rw [List.getElem?_set_ne q] at e1
    exact (s.cell i c' b e1 e2).keep (kp_die h0 hd) rfl
theorem not_live_dead (s : Sim K H m loc) (hl : loc.l[n]? = some a) : ¬ Live (m.set n .dead) loc a := fun l => by
  rcases l with ⟨i, c', e1, nd, e2⟩ | l
  case inr => exact s.apart a (List.mem_of_getElem? hl) l
  have q : n = i := nodup_at s.nd hl e2
  subst q
  have hlt : n < m.length := by
    have := (List.getElem?_eq_some_iff.mp hl).1
    rw [s.len] at this
    exact this
  rw [List.getElem?_set_self hlt] at e1
  cases e1
  exact nd rfl
/-- a list by its data -/
theorem asL_rep (s : Sim K H m loc) {v : V} {d : D} (r : RepM K H m loc v d) {xs : List D} (h : asL m d = some xs) : ∃ a vs, v = .ref a ∧ H a = some (.lst vs) ∧ vs.length ≤ LIM ∧ Reps K H (Live m loc) loc vs xs := by
  cases r with
  | lst e nl z r =>
    cases h
    exact ⟨_, _, rfl, e, z, r⟩
  | @ref a n e =>
    have h' : (match m[n]? with
      | some (.lst xs) => some xs
      | _ => none) = some xs := h
    cases q : m[n]? with
    | none =>
      rw [q] at h'
      cases h'
    | some c =>
      rw [q] at h'
      cases c with
      | lst ys =>
        cases h'
        obtain ⟨vs, e2, z, r⟩ := s.cell n _ a q e
        exact ⟨a, vs, rfl, e2, z, r⟩
      | _ => cases h'
  | _ => cases h
end
/-! ### equality of data -/
mutual
def toPy : D → PyData
  | .non => .none
  | .bl b => .bool b
  | .int i => .int i
  | .str s => .str s
  | .tup xs => .tuple (toPyA xs)
  | .lst xs => .list (toPyA xs)
  | _ => .none
def toPyA : List D → List PyData
  | [] => []
  | x :: xs => toPy x :: toPyA xs
end
mutual
theorem eqv_toPy : ∀ (x y : D), dep x < 1000 → dep y < 1000 → PyData.eqv (toPy x) (toPy y) = eqD x y
  | .non, y, _, hy => by cases y <;> first | (simp [dep] at hy; done) | simp [toPy, PyData.eqv, eqD]
  | .bl b, y, _, hy => by cases y <;> first | (simp [dep] at hy; done) | simp [toPy, PyData.eqv, eqD]
  | .int b, y, _, hy => by cases y <;> first | (simp [dep] at hy; done) | simp [toPy, PyData.eqv, eqD]
  | .str b, y, _, hy => by cases y <;> first | (simp [dep] at hy; done) | simp [toPy, PyData.eqv, eqD]
  | .tup xs, y, hx, hy => by
    cases y with
    | tup ys =>
      have h1 : depA xs + 1 < 1000 := by simpa [dep] using hx
      have h2 : depA ys + 1 < 1000 := by simpa [dep] using hy
      simp only [toPy, PyData.eqv, eqD]
      exact eqv_toPyA xs ys (by omega) (by omega)
    | _ => first | (simp [dep] at hy; done) | simp [toPy, PyData.eqv, eqD]
  | .lst xs, y, hx, hy => by
    cases y with
    | lst ys =>
      have h1 : depA xs + 1 < 1000 := by simpa [dep] using hx
      have h2 : depA ys + 1 < 1000 := by simpa [dep] using hy
      simp only [toPy, PyData.eqv, eqD]
      exact eqv_toPyA xs ys (by omega) (by omega)
    | _ => first | (simp [dep] at hy; done) | simp [toPy, PyData.eqv, eqD]
  | .dic _, _, hx, _ => by simp [dep] at hx
  | .scr _, _, hx, _ => by simp [dep] at hx
  | .ref _, _, hx, _ => by simp [dep] at hx
  | .cls _, _, hx, _ => by simp [dep] at hx
theorem eqv_toPyA : ∀ (xs ys : List D), depA xs < 1000 → depA ys < 1000 → PyData.eqvAll (toPyA xs) (toPyA ys) = eqA xs ys
  | [], [], _, _ => by simp [toPyA, PyData.eqvAll, eqA]
  | [], _ :: _, _, _ => by simp [toPyA, PyData.eqvAll, eqA]
  | _ :: _, [], _, _ => by simp [toPyA, PyData.eqvAll, eqA]
  | x :: xs, y :: ys, hx, hy => by
    have h1 : max (dep x) (depA xs) < 1000 := by simpa [depA] using hx
    have h2 : max (dep y) (depA ys) < 1000 := by simpa [depA] using hy
    simp only [toPyA, PyData.eqvAll, eqA]
    rw [eqv_toPy x y (by omega) (by omega), eqv_toPyA xs ys (by omega) (by omega)]
end
mutual
theorem lay_toPy : ∀ (x : D), dep x < 1000 → (toPy x).canLay0 = true ∧ (toPy x).depth ≤ dep x
  | .non, _ => by simp [toPy, PyData.canLay0, PyData.depth]
  | .bl b, _ => by simp [toPy, PyData.canLay0, PyData.depth]
  | .int b, _ => by simp [toPy, PyData.canLay0, PyData.depth]
  | .str b, h => by
    have q : PyData.strOk b = true := by
      by_cases e : PyData.strOk b = true
      · exact e
      · simp [dep, e] at h
    simp [toPy, PyData.canLay0, PyData.depth, q]
  | .tup xs, hx => by
    have h1 : depA xs + 1 < 1000 := by simpa [dep] using hx
    obtain ⟨q1, q2⟩ := lay_toPyA xs (by omega)
    simp only [toPy, PyData.canLay0, PyData.depth, dep]
    exact ⟨q1, by omega⟩
  | .lst xs, hx => by
    have h1 : depA xs + 1 < 1000 := by simpa [dep] using hx
    obtain ⟨q1, q2⟩ := lay_toPyA xs (by omega)
    simp only [toPy, PyData.canLay0, PyData.depth, dep]
    exact ⟨q1, by omega⟩
  | .dic _, hx => by simp [dep] at hx
  | .scr _, hx => by simp [dep] at hx
  | .ref _, hx => by simp [dep] at hx
  | .cls _, hx => by simp [dep] at hx
theorem lay_toPyA : ∀ (xs : List D), depA xs < 1000 → PyData.canLayAll0 (toPyA xs) = true ∧ PyData.depthAll (toPyA xs) ≤ depA xs
  | [], _ => by simp [toPyA, PyData.canLayAll0, PyData.depthAll]
  | x :: xs, hx => by
    have h1 : max (dep x) (depA xs) < 1000 := by simpa [depA] using hx
    obtain ⟨a1, a2⟩ := lay_toPy x (by omega)
    obtain ⟨b1, b2⟩ := lay_toPyA xs (by omega)
    simp only [toPyA, PyData.canLayAll0, PyData.depthAll, depA]
    exact ⟨by rw [a1, b1]; rfl, by omega⟩
end
theorem shaped_of {x : D} (h : dep x ≤ 60) : SeqAt.shaped (toPy x) = true := by
  obtain ⟨a, b⟩ := lay_toPy x (by omega)
  unfold SeqAt.shaped
  rw [a, decide_eq_true (by omega)]
  rfl
section
variable {K : PySem.W.Frag} {H : Hp} {L : Addr → Prop} {loc : Loc}
mutual
theorem dp_of : ∀ {v : V} {d : D}, Rep K H L loc v d → dep d < 1000 → Dp K H v (toPy d)
  | _, _, .non, _ => by rw [toPy]; exact .non
  | _, _, .bl b, _ => by rw [toPy]; exact .bl b
  | _, _, .int i, _ => by rw [toPy]; exact .int i
  | _, _, .str s, _ => by rw [toPy]; exact .str s
  | _, _, .tup h z r, q => by
    rename_i a vs ds
    have q' : depA ds + 1 < 1000 := by simpa [dep] using q
    rw [toPy]
    exact .tup (tupS h) (dpA_of r (by omega))
  | _, _, .lst h nl z r, q => by
    rename_i a vs ds
    have q' : depA ds + 1 < 1000 := by simpa [dep] using q
    rw [toPy]
    exact .lst (SqL.of h) (dpA_of r (by omega))
  | _, _, .dic h nl r, q => by simp [dep] at q
  | _, _, .scr h z, q => by simp [dep] at q
  | _, _, .ref h, q => by simp [dep] at q
  | _, _, .cls h, q => by simp [dep] at q
theorem dpA_of : ∀ {vs : List V} {ds : List D}, Reps K H L loc vs ds → depA ds < 1000 → DpAll K H vs (toPyA ds)
  | _, _, .nil, _ => by rw [toPyA]; exact .nil
  | _, _, .cons r t, q => by
    rename_i v vs d ds
    have q' : max (dep d) (depA ds) < 1000 := by simpa [depA] using q
    rw [toPyA]
    exact .cons (dp_of r (by omega)) (dpA_of t (by omega))
end
end
theorem any_toPy (x : D) (hx : dep x < 1000) : ∀ ys : List D, depA ys < 1000 → ((toPyA ys).any fun z => PyData.eqv z (toPy x)) = ys.any fun z => eqD z x
  | [], _ => by simp [toPyA]
  | y :: ys, h => by
    have q' : max (dep y) (depA ys) < 1000 := by simpa [depA] using h
    simp only [toPyA, List.any_cons]
    rw [eqv_toPy y x (by omega) hx, any_toPy x hx ys (by omega)]
end Mi
/-! Mini: the rules of operators and comparisons. -/
namespace Mi
open PySem PySem.Spec PyProof.Rows L2
variable [Glb]
section
variable {Γ : Gam} {W : Value → Option Addr → Hp → Prop} {H : Hp} {m : MH} {loc : Loc} {Q : VK} {vs : List V} {ds : List D}
theorem Po.tup (p : Po Γ W H m loc (rlD Γ) (.ok (.tup ds) m) Q) (s : Sim Γ.K H m loc) (r : Reps Γ.K H (Live m loc) loc vs ds) (z : vs.length ≤ LIM) : ∀ q, H q = none → Q (.ref q) (upd H q (.tup vs)) := fun q hq =>
  p _ _ loc (s.new hq) (kp_new hq s) (Rep.tup (.inl ⟨.inl upd_same, s.no hq⟩) z (r.mono (kp_new hq s)))
theorem Po.lst (p : Po Γ W H m loc (rlD Γ) (.ok (.lst ds) m) Q) (s : Sim Γ.K H m loc) (r : Reps Γ.K H (Live m loc) loc vs ds) (z : vs.length ≤ LIM) : ∀ q, H q = none → Q (.ref q) (upd H q (.lst vs)) := fun q hq =>
  p _ _ loc (s.new hq) (kp_new hq s) (Rep.lst upd_same (s.no hq) z (r.mono (kp_new hq s)))
end
/-- a two-place operation by data -/
def OpOk (X : Cx) (Γ : Gam) (f : Value → Value → Sem Value) (g : MH → D → D → Option D) : Prop :=
  ∃ r : R2, OpR X f r ∧ ∀ (W : Value → Option Addr → Hp → Prop) (H : Hp) (m : MH) (loc : Loc) (v1 v2 : V) (d1 d2 d : D) (Q : VK), Sim Γ.K H m loc → RepM Γ.K H m loc v1 d1 → RepM Γ.K H m loc v2 d2 → g m d1 d2 = some d →
    Po Γ W H m loc (rlD Γ) (.ok d m) Q → r v1 v2 H Q
section
variable {X : Cx} {Γ : Gam} {C : Call} {G : Nat → Option D} {a b c : Expr} {ea eb ec : Env → MH → R D} {pos : Pos}
theorem se_bin {op : Operator} {g : MH → D → D → Option D} (o : OpOk X Γ (binaryOp op) g) (ha : SE Γ X a ea) (hb : SE Γ X b eb) :
    SE Γ X (.BinOp a op b pos) (fun env m => (ea env m).bind fun x m => (eb env m).bind fun y m => ofO (g m x y) m) := fun W tk => by
  obtain ⟨r, hr, hg⟩ := o
  refine wkE (pe_op hr (ha W tk) (hb W tk)) fun σ H Q ⟨env, m, loc, A, p⟩ => sub A p fun v1 H1 d1 m1 loc1 _ A1 k1 r1 p1 => sub A1 p1 fun v2 H2 d2 m2 loc2 _ A2 k2 r2 p2 => ?_
  obtain ⟨d, e, p3⟩ := p2.ofO
  exact hg _ H2 m2 loc2 v1 v2 d1 d2 d Q A2.1 (r1.mono k2) r2 e p3
theorem se_cmp {op : CmpOp} {g : MH → D → D → Option D} (o : OpOk X Γ (compareOp op) g) (ha : SE Γ X a ea) (hb : SE Γ X b eb) (hm : behindInMarks op b = false) :
    SE Γ X (.Compare a [op] [b] pos) (fun env m => (ea env m).bind fun x m => (eb env m).bind fun y m => ofO (g m x y) m) := fun W tk => by
  obtain ⟨r, hr, hg⟩ := o
  refine wkE (pe_cmpR hr (ha W tk) (hb W tk) hm) fun σ H Q ⟨env, m, loc, A, p⟩ => sub A p fun v1 H1 d1 m1 loc1 _ A1 k1 r1 p1 => sub A1 p1 fun v2 H2 d2 m2 loc2 _ A2 k2 r2 p2 => ?_
  obtain ⟨d, e, p3⟩ := p2.ofO
  exact hg _ H2 m2 loc2 v1 v2 d1 d2 d Q A2.1 (r1.mono k2) r2 e p3
/-! ### arithmetic -/
theorem ok_int {o : BOp} {f : Value → Value → Sem Value} {Cn : Int → Int → Prop} {g : Int → Int → Int} (hr : OpR X f (rI Cn fun i j => .int (g i j))) (h : ∀ i j k, binI o i j = some k → Cn i j ∧ k = g i j) :
    OpOk X Γ f (fun _ x y => intD o x y) := by
  refine ⟨_, hr, fun W H m loc v1 v2 d1 d2 d Q s r1 r2 e p => ?_⟩
  cases r1 with
  | int i =>
    cases r2 with
    | int j =>
      obtain ⟨k, e1, e2⟩ := Option.map_eq_some_iff.mp (show (binI o i j).map D.int = some d from e)
      subst e2
      obtain ⟨h1, h2⟩ := h i j k e1
      subst h2
      exact ⟨i, j, rfl, rfl, h1, p.ret s (.int _)⟩
    | _ => cases e
  | _ => cases e
theorem rI_of0 {X : Cx} {f : Value → Value → Sem Value} {g : Int → Int → V} (h : OpR X f (rI0 g)) : OpR X f (rI (fun _ _ => True) g) := fun pins s σ H x y v u Q I rx ry ⟨i, j, e1, e2, _, q⟩ => h pins s σ H x y v u Q I rx ry ⟨i, j, e1, e2, q⟩
theorem ok_sub : OpOk X Γ (binaryOp .Sub) (fun m => binD m .sub) := ok_int (o := .sub) (rI_of0 op_sub) fun i j k e => ⟨True.intro, (Option.some.inj e).symm⟩
theorem ok_mod : OpOk X Γ (binaryOp .Mod) (fun m => binD m .mod) := ok_int (o := .mod) op_mod fun i j k e => by
  have e' : (if 0 < j then some (i % j) else none) = some k := e
  split at e'
  · rename_i h
    exact ⟨h, (Option.some.inj e').symm⟩
  · cases e'
theorem ok_fdiv : OpOk X Γ (binaryOp .FloorDiv) (fun m => binD m .fdiv) := ok_int (o := .fdiv) op_fdiv fun i j k e => by
  have e' : (if (decide (0 < j) && decide (j < 1073741824)) = true then some (i / j) else none) = some k := e
  split at e'
  · rename_i h
    rw [Bool.and_eq_true, decide_eq_true_eq, decide_eq_true_eq] at h
    exact ⟨h, (Option.some.inj e').symm⟩
  · cases e'
theorem ok_pow : OpOk X Γ (binaryOp .Pow) (fun m => binD m .pow) := ok_int (o := .pow) op_pow fun i j k e => by
  have e' : (if (decide (0 ≤ j) && decide (j ≤ 1000000) && decide (i.natAbs < 2 ^ 64)) = true then some (i ^ j.toNat) else none) = some k := e
  split at e'
  · rename_i h
    rw [Bool.and_eq_true, Bool.and_eq_true, decide_eq_true_eq, decide_eq_true_eq, decide_eq_true_eq] at h
    exact ⟨⟨h.1.1, h.1.2, h.2⟩, (Option.some.inj e').symm⟩
  · cases e'
theorem asL_tup {m : MH} {xs : List D} : asL m (.tup xs) = none := rfl
theorem ok_add (hK : X.K = Γ.K) : OpOk X Γ (binaryOp .Add) (fun m => binD m .add) := by
  refine ⟨_, op_add.or (op_add_str.or (op_catA.or op_cat)), fun W H m loc v1 v2 d1 d2 d Q s r1 r2 e p => ?_⟩
  have e : addD m d1 d2 = some d := e
  have lists : ∀ (xs ys : List D), asL m d1 = some xs → asL m d2 = some ys → (if xs.length + ys.length ≤ LIM then some (D.lst (xs ++ ys)) else none) = some d → rCat v1 v2 H Q := fun xs ys h1 h2 h3 => by
    obtain ⟨a, vs, rfl, ha, z1, q1⟩ := asL_rep s r1 h1
    obtain ⟨b, ws, rfl, hb, z2, q2⟩ := asL_rep s r2 h2
    split at h3
    · rename_i hz
      cases h3
      rw [← q1.length, ← q2.length] at hz
      exact ⟨a, b, vs, ws, rfl, rfl, ha, hb, lim_le hz, p.lst s (q1.append q2) (by rw [List.length_append]; exact hz)⟩
    · cases h3
  have more : (match asL m d1 with
      | some xs => (match asL m d2 with
        | some ys => if xs.length + ys.length ≤ LIM then some (D.lst (xs ++ ys)) else none
        | none => none)
      | none => none) = some d → rCat v1 v2 H Q := fun q => by
    cases h1 : asL m d1 with
    | none =>
      rw [h1] at q
      cases q
    | some xs =>
      rw [h1] at q
      cases h2 : asL m d2 with
      | none =>
        rw [h2] at q
        cases q
      | some ys =>
        rw [h2] at q
        exact lists xs ys h1 h2 q
  cases r1 with
  | int i =>
    cases r2 with
    | int j =>
      cases e
      exact .inl ⟨i, j, rfl, rfl, p.ret s (.int _)⟩
    | _ => cases e
  | str x =>
    cases r2 with
    | str y =>
      have e' : (if x.length + y.length ≤ LIM then some (D.str (x ++ y)) else none) = some d := e
      split at e'
      · rename_i hz
        cases e'
        exact .inr (.inl ⟨x, y, rfl, rfl, lim_le hz, p.ret s (.str _)⟩)
      · cases e'
    | _ => cases e
  | @tup a vs xs h z q1 =>
    cases r2 with
    | @tup b ws ys h' z' q2 =>
      have e' : (if xs.length + ys.length ≤ LIM then some (D.tup (xs ++ ys)) else none) = some d := e
      split at e'
      · rename_i hz
        cases e'
        rw [← q1.length, ← q2.length] at hz
        refine .inr (.inr (.inl ⟨a, b, vs, ws, rfl, rfl, hK ▸ tupS h, hK ▸ tupS h', lim_le hz, fun e0 => ?_, fun _ e1 => ?_, fun _ _ => p.tup s (q1.append q2) (by rw [List.length_append]; exact hz)⟩))
        · subst e0
          cases q1
          exact p.ret s (Rep.tup h' z' q2)
        · subst e1
          cases q2
          rw [List.append_nil] at p
          exact p.ret s (Rep.tup h z q1)
      · cases e'
    | _ => cases e
  | non => exact .inr (.inr (.inr (more e)))
  | bl b => exact .inr (.inr (.inr (more e)))
  | lst h1 h2 h3 h4 => exact .inr (.inr (.inr (more e)))
  | dic h1 h2 h3 => exact .inr (.inr (.inr (more e)))
  | scr h1 h2 => exact .inr (.inr (.inr (more e)))
  | ref h1 => exact .inr (.inr (.inr (more e)))
  | cls h1 => exact .inr (.inr (.inr (more e)))
theorem band4 {a b c d : Bool} (h : (a && b && c && d) = true) : a = true ∧ b = true ∧ c = true ∧ d = true := by
  simpa [Bool.and_eq_true, and_assoc] using h
theorem ok_mul (hK : X.K = Γ.K) : OpOk X Γ (binaryOp .Mult) (fun m => binD m .mul) := by
  refine ⟨_, op_mul.or (op_repT.or op_rep), fun W H m loc v1 v2 d1 d2 d Q s r1 r2 e p => ?_⟩
  have e : mulD m d1 d2 = some d := e
  cases r2 with
  | int k =>
    have more : (match asL m d1 with
        | some xs => if (decide (0 ≤ k) && decide (k ≤ 1000) && decide (xs.length ≤ 1000)) = true then some (D.lst (List.replicate k.toNat xs).flatten) else none
        | none => none) = some d → rRep v1 (.int k) H Q := fun q => by
      cases h1 : asL m d1 with
      | none =>
        rw [h1] at q
        cases q
      | some xs =>
        rw [h1] at q
        obtain ⟨a, vs, rfl, ha, z1, q1⟩ := asL_rep s r1 h1
        have q' : (if (decide (0 ≤ k) && decide (k ≤ 1000) && decide (xs.length ≤ 1000)) = true then some (D.lst (List.replicate k.toNat xs).flatten) else none) = some d := q
        split at q'
        · rename_i hz
          cases q'
          simp only [Bool.and_eq_true, decide_eq_true_eq] at hz
          obtain ⟨⟨k0, k1⟩, k2⟩ := hz
          have hb : vs.length * k.toNat ≤ 1000 * 1000 := by
            rw [q1.length]
            exact Nat.mul_le_mul k2 (by omega)
          have hb' : vs.length * k.toNat ≤ sizeLine := by
            rw [sizeLine_eq]
            omega
          refine ⟨a, k, vs, rfl, rfl, ha, by omega, by omega, hb', p.lst s (q1.rep k.toNat) ?_⟩
          rw [PyProof.Rows.lm_len_rep_flat]
          show k.toNat * vs.length ≤ 16777216
          rw [Nat.mul_comm]
          omega
        · cases q'
    cases r1 with
    | int i =>
      have e' : (binI .mul i k).map D.int = some d := e
      obtain ⟨z, e1, e2⟩ := Option.map_eq_some_iff.mp e'
      subst e2
      have e3 : (if (smallI i || smallI k) = true then some (i * k) else none) = some z := e1
      split at e3
      · rename_i h
        cases e3
        refine .inl ⟨i, k, rfl, rfl, ?_, p.ret s (.int _)⟩
        rw [Bool.or_eq_true] at h
        simp only [smallI, Bool.and_eq_true, decide_eq_true_eq] at h
        exact h
      · cases e3
    | @tup a vs xs h z q1 =>
      have e' : (if (decide (xs ≠ []) && decide (2 ≤ k) && decide (k ≤ 1000) && decide (xs.length ≤ 1000)) = true then some (D.tup (List.replicate k.toNat xs).flatten) else none) = some d := e
      split at e'
      · rename_i hz
        cases e'
        obtain ⟨k0, k1, k2, k3⟩ := band4 hz
        rw [decide_eq_true_eq] at k0 k1 k2 k3
        rw [← q1.length] at k3
        have hb : k.toNat * vs.length ≤ 1000 * 1000 := Nat.mul_le_mul (by omega) k3
        refine .inr (.inl ⟨a, k, vs, rfl, rfl, hK ▸ tupS h, fun e0 => k0 ?_, k1, k2, k3, p.tup s (q1.rep k.toNat) ?_⟩)
        · subst e0
          cases q1
          rfl
        · rw [PyProof.Rows.lm_len_rep_flat]
          show k.toNat * vs.length ≤ 16777216
          omega
      · cases e'
    | non => exact .inr (.inr (more e))
    | bl b => exact .inr (.inr (more e))
    | str b => exact .inr (.inr (more e))
    | lst h1 h2 h3 h4 => exact .inr (.inr (more e))
    | dic h1 h2 h3 => exact .inr (.inr (more e))
    | scr h1 h2 => exact .inr (.inr (more e))
    | ref h1 => exact .inr (.inr (more e))
    | cls h1 => exact .inr (.inr (more e))
  | _ => cases e
/-! ### comparisons -/
theorem okD_iff {d : D} (h : okD d = true) : dep d ≤ 60 := of_decide_eq_true h
theorem eqM_cases {x y : D} {b : Bool} (h : eqM x y = some b) : (∃ i j, x = .int i ∧ y = .int j ∧ b = (i == j)) ∨ (∃ i j, x = .str i ∧ y = .str j ∧ b = (i == j)) ∨ (dep x ≤ 60 ∧ dep y ≤ 60 ∧ b = eqD x y) ∨ (∃ xs, x = .tup xs ∧ y = .tup [] ∧ b = xs.isEmpty) ∨ (∃ xs, x = .lst xs ∧ y = .lst [] ∧ b = xs.isEmpty) := by
  unfold eqM at h
  split at h
  · exact .inl ⟨_, _, rfl, rfl, (Option.some.inj h).symm⟩
  · exact .inr (.inl ⟨_, _, rfl, rfl, (Option.some.inj h).symm⟩)
  · exact .inr (.inr (.inr (.inl ⟨_, rfl, rfl, (Option.some.inj h).symm⟩)))
  · exact .inr (.inr (.inr (.inr ⟨_, rfl, rfl, (Option.some.inj h).symm⟩)))
  · split at h
    · rename_i hz
      rw [Bool.and_eq_true] at hz
      exact .inr (.inr (.inl ⟨okD_iff hz.1, okD_iff hz.2, (Option.some.inj h).symm⟩))
    · cases h
/-- a tuple or a list against an empty one -/
def rEqE (K : PySem.W.Frag) (f : Bool → Bool) : R2 := fun x y H Q => ∃ a b xs, x = .ref a ∧ y = .ref b ∧ ((SqT K H a xs ∧ SqT K H b []) ∨ (SqL K H a xs ∧ SqL K H b [])) ∧ Q (.bl (f xs.isEmpty)) H
theorem empty_len {xs : List V} {us : List Value} (r : Vals xs us) : (us.toArray.size == (#[] : Array Value).size) = xs.isEmpty := by
  cases r <;> rfl
theorem op_eqE (hu : X.A.units + 64 < cLine) : OpR X (compareOp .Eq) (rEqE X.K id) := by
  intro pins s σ H x y v u Q I rx ry h
  obtain ⟨a, b, xs, rfl, rfl, h, q⟩ := h
  cases (show v = Value.ref a from rx)
  cases (show u = Value.ref b from ry)
  rcases h with ⟨ha, hb⟩ | ⟨ha, hb⟩
  · obtain ⟨us, r1, p1, _⟩ := I.tuple ha
    obtain ⟨ws, r2, p2, _⟩ := I.tuple hb
    cases r2
    refine SeqAt.RcAt.tuples (A := X.A) (s := s) (e := fun _ => true) p1 p2 (by omega) (fun j _ h2 => absurd h2 (Nat.not_lt_zero j)) _ _ _ _ ?_
    rw [empty_len r1]
    have e : ((List.range (min us.toArray.size 0)).all fun _ => true) = true := List.all_eq_true.mpr fun _ _ => rfl
    have e2 : ((List.range (min us.toArray.size ([] : List Value).toArray.size)).all fun _ => true) = true := e
    rw [e2]
    exact ⟨.bl _, H, I, rfl, q⟩
  · obtain ⟨us, r1, p1, _⟩ := I.list ha
    obtain ⟨ws, r2, p2, _⟩ := I.list hb
    cases r2
    by_cases hs : us.toArray.size = 0
    · refine SeqAt.RcAt.lists (A := X.A) (s := s) (e := fun _ => true) p1.isList p2.isList hs (by omega) (fun j _ h2 => absurd h2 (Nat.not_lt_zero j)) _ _ _ _ ?_
      have e : xs.isEmpty = true := by
        rw [← empty_len r1, hs]
        rfl
      have e2 : ((List.range us.toArray.size).all fun _ => true) = true := List.all_eq_true.mpr fun _ _ => rfl
      rw [e] at q
      rw [e2]
      exact ⟨.bl _, H, I, rfl, q⟩
    · have e : xs.isEmpty = false := by
        rw [← empty_len r1]
        exact beq_false_of_ne hs
      refine SeqAt.RcAt.lists_lengths (A := X.A) (s := s) p1.isList p2.isList (bne_iff_ne.mpr hs) (by omega) _ _ _ _ ?_
      rw [e] at q
      exact ⟨.bl _, H, I, rfl, q⟩
theorem op_neE (hu : X.A.units + 64 < cLine) : OpR X (compareOp .NotEq) (rEqE X.K fun b => !b) := by
  intro pins s σ H x y v u Q I rx ry h
  obtain ⟨a, b, xs, rfl, rfl, h, q⟩ := h
  cases (show v = Value.ref a from rx)
  cases (show u = Value.ref b from ry)
  rcases h with ⟨ha, hb⟩ | ⟨ha, hb⟩
  · obtain ⟨us, r1, p1, _⟩ := I.tuple ha
    obtain ⟨ws, r2, p2, _⟩ := I.tuple hb
    cases r2
    refine SeqAt.RcNeAt.tuples (A := X.A) (s := s) (e := fun _ => true) p1 p2 (by omega) (fun j _ h2 => absurd h2 (Nat.not_lt_zero j)) _ _ _ _ ?_
    rw [empty_len r1]
    have e : ((List.range (min us.toArray.size 0)).all fun _ => true) = true := List.all_eq_true.mpr fun _ _ => rfl
    have e2 : ((List.range (min us.toArray.size ([] : List Value).toArray.size)).all fun _ => true) = true := e
    rw [e2]
    exact ⟨.bl _, H, I, rfl, q⟩
  · obtain ⟨us, r1, p1, _⟩ := I.list ha
    obtain ⟨ws, r2, p2, _⟩ := I.list hb
    cases r2
    by_cases hs : us.toArray.size = 0
    · refine SeqAt.RcNeAt.lists (A := X.A) (s := s) (e := fun _ => true) p1.isList p2.isList hs (by omega) (fun j _ h2 => absurd h2 (Nat.not_lt_zero j)) _ _ _ _ ?_
      have e : xs.isEmpty = true := by
        rw [← empty_len r1, hs]
        rfl
      have e2 : ((List.range us.toArray.size).all fun _ => true) = true := List.all_eq_true.mpr fun _ _ => rfl
      rw [e] at q
      rw [e2]
      exact ⟨.bl _, H, I, rfl, q⟩
    · have e : xs.isEmpty = false := by
        rw [← empty_len r1]
        exact beq_false_of_ne hs
      refine SeqAt.RcNeAt.lists_lengths (A := X.A) (s := s) p1.isList p2.isList (bne_iff_ne.mpr hs) (by omega) _ _ _ _ ?_
      rw [e] at q
      exact ⟨.bl _, H, I, rfl, q⟩
/-- what is read of the two -/
theorem eqE_of {K : PySem.W.Frag} {H : Hp} {m : MH} {loc : Loc} {v1 v2 : V} {xs : List D} : (RepM K H m loc v1 (.tup xs) → RepM K H m loc v2 (.tup []) → ∃ a b vs, v1 = .ref a ∧ v2 = .ref b ∧ ((SqT K H a vs ∧ SqT K H b []) ∨ (SqL K H a vs ∧ SqL K H b [])) ∧ vs.isEmpty = xs.isEmpty) ∧
    (RepM K H m loc v1 (.lst xs) → RepM K H m loc v2 (.lst []) → ∃ a b vs, v1 = .ref a ∧ v2 = .ref b ∧ ((SqT K H a vs ∧ SqT K H b []) ∨ (SqL K H a vs ∧ SqL K H b [])) ∧ vs.isEmpty = xs.isEmpty) := by
  have len : ∀ {L : Addr → Prop} {vs : List V} {xs : List D}, Reps K H L loc vs xs → vs.isEmpty = xs.isEmpty := fun r => by cases r <;> rfl
  constructor
  · intro r1 r2
    cases r1 with
    | tup h1 z1 q1 =>
      cases r2 with
      | tup h2 z2 q2 =>
        cases q2
        exact ⟨_, _, _, rfl, rfl, .inl ⟨tupS h1, tupS h2⟩, len q1⟩
  · intro r1 r2
    cases r1 with
    | lst h1 n1 z1 q1 =>
      cases r2 with
      | lst h2 n2 z2 q2 =>
        cases q2
        exact ⟨_, _, _, rfl, rfl, .inr ⟨.inl (.inl h1), .inl (.inl h2)⟩, len q1⟩
theorem ok_eq (hK : X.K = Γ.K) (hu : X.A.units + 64 < cLine) : OpOk X Γ (compareOp .Eq) (fun m x y => (cmpM m .eq x y).map D.bl) := by
  refine ⟨_, (op_eq.or (op_eqD hu)).or (op_eqE hu), fun W H m loc v1 v2 d1 d2 d Q s r1 r2 e p => ?_⟩
  obtain ⟨b, e1, e2⟩ := Option.map_eq_some_iff.mp e
  subst e2
  rcases eqM_cases e1 with ⟨i, j, rfl, rfl, eb⟩ | ⟨i, j, rfl, rfl, eb⟩ | ⟨h1, h2, eb⟩ | ⟨xs, rfl, rfl, eb⟩ | ⟨xs, rfl, rfl, eb⟩
  · cases r1
    cases r2
    refine .inl (.inl ⟨rfl, ?_⟩)
    rw [dec_int, ← eb]
    exact p.ret s (.bl _)
  · cases r1
    cases r2
    refine .inl (.inl ⟨rfl, ?_⟩)
    rw [dec_str, ← eb]
    exact p.ret s (.bl _)
  rotate_left
  · obtain ⟨a, b', vs, rfl, rfl, z, ev⟩ := eqE_of.1 r1 r2
    refine .inr ⟨a, b', vs, rfl, rfl, hK ▸ z, ?_⟩
    rw [ev, id, ← eb]
    exact p.ret s (.bl _)
  · obtain ⟨a, b', vs, rfl, rfl, z, ev⟩ := eqE_of.2 r1 r2
    refine .inr ⟨a, b', vs, rfl, rfl, hK ▸ z, ?_⟩
    rw [ev, id, ← eb]
    exact p.ret s (.bl _)
  · refine .inl <| .inr ⟨_, _, hK ▸ dp_of r1 (by omega), hK ▸ dp_of r2 (by omega), shaped_of h1, shaped_of h2, ?_⟩
    rw [eqv_toPy _ _ (by omega) (by omega), ← eb]
    exact p.ret s (.bl _)
theorem ok_ne (hK : X.K = Γ.K) (hu : X.A.units + 64 < cLine) : OpOk X Γ (compareOp .NotEq) (fun m x y => (cmpM m .ne x y).map D.bl) := by
  refine ⟨_, (op_ne.or (op_neD hu)).or (op_neE hu), fun W H m loc v1 v2 d1 d2 d Q s r1 r2 e p => ?_⟩
  obtain ⟨b, e1, e2⟩ := Option.map_eq_some_iff.mp e
  subst e2
  obtain ⟨b0, e3, e2⟩ := Option.map_eq_some_iff.mp (show (eqM d1 d2).map (!·) = some b from e1)
  subst e2
  clear e1
  have e1 := e3
  clear e3
  rcases eqM_cases e1 with ⟨i, j, rfl, rfl, eb⟩ | ⟨i, j, rfl, rfl, eb⟩ | ⟨h1, h2, eb⟩ | ⟨xs, rfl, rfl, eb⟩ | ⟨xs, rfl, rfl, eb⟩
  · cases r1
    cases r2
    refine .inl (.inl ⟨rfl, ?_⟩)
    rw [dec_int, ← eb]
    exact p.ret s (.bl _)
  · cases r1
    cases r2
    refine .inl (.inl ⟨rfl, ?_⟩)
    rw [dec_str, ← eb]
    exact p.ret s (.bl _)
  rotate_left
  · obtain ⟨a, b', vs, rfl, rfl, z, ev⟩ := eqE_of.1 r1 r2
    refine .inr ⟨a, b', vs, rfl, rfl, hK ▸ z, ?_⟩
    rw [ev, ← eb]
    exact p.ret s (.bl _)
  · obtain ⟨a, b', vs, rfl, rfl, z, ev⟩ := eqE_of.2 r1 r2
    refine .inr ⟨a, b', vs, rfl, rfl, hK ▸ z, ?_⟩
    rw [ev, ← eb]
    exact p.ret s (.bl _)
  · refine .inl <| .inr ⟨_, _, hK ▸ dp_of r1 (by omega), hK ▸ dp_of r2 (by omega), shaped_of h1, shaped_of h2, ?_⟩
    rw [eqv_toPy _ _ (by omega) (by omega), ← eb]
    exact p.ret s (.bl _)
theorem ok_ltD {f : Value → Value → Sem Value} {g : Int → Int → Bool} (hr : OpR X f (rI0 fun i j => .bl (g i j))) : OpOk X Γ f (fun m x y => (ltD g x y).map D.bl) := by
  refine ⟨_, hr, fun W H m loc v1 v2 d1 d2 d Q s r1 r2 e p => ?_⟩
  cases r1 with
  | int i =>
    cases r2 with
    | int j =>
      cases e
      exact ⟨i, j, rfl, rfl, p.ret s (.bl _)⟩
    | _ => cases e
  | _ => cases e
theorem isN_of {K : PySem.W.Frag} {H : Hp} {L : Addr → Prop} {loc : Loc} {v : V} {d : D} (r : Rep K H L loc v d) : decide (v = V.non) = isN d := by
  cases r <;> first | rfl | exact decide_eq_false (fun z => nomatch z)
theorem ok_is : OpOk X Γ (compareOp .Is) (fun m x y => (cmpM m .is_ x y).map D.bl) := by
  refine ⟨_, op_isN.or op_isBl, fun W H m loc v1 v2 d1 d2 d Q s r1 r2 e p => ?_⟩
  obtain ⟨b, e1, e2⟩ := Option.map_eq_some_iff.mp e
  subst e2
  have e1 : isM d1 d2 = some b := e1
  cases r2 with
  | non =>
    have e' : some (isN d1) = some b := e1
    cases e'
    refine .inl ⟨rfl, ?_⟩
    rw [isN_of r1]
    exact p.ret s (.bl _)
  | bl b2 =>
    cases r1 with
    | bl b1 =>
      have e' : some (decide (b1 = b2)) = some b := e1
      cases e'
      exact .inr ⟨b1, b2, rfl, rfl, p.ret s (.bl _)⟩
    | _ => cases e1
  | _ => cases e1
theorem ok_isnot : OpOk X Γ (compareOp .IsNot) (fun m x y => (cmpM m .isnot x y).map D.bl) := by
  refine ⟨_, op_notN.or op_notBl, fun W H m loc v1 v2 d1 d2 d Q s r1 r2 e p => ?_⟩
  obtain ⟨b, e1, e2⟩ := Option.map_eq_some_iff.mp e
  subst e2
  obtain ⟨b0, e3, e2⟩ := Option.map_eq_some_iff.mp (show (isM d1 d2).map (!·) = some b from e1)
  subst e2
  clear e1
  have e1 := e3
  clear e3
  cases r2 with
  | non =>
    have e' : some (isN d1) = some b0 := e1
    cases e'
    refine .inl ⟨rfl, ?_⟩
    rw [isN_of r1]
    exact p.ret s (.bl _)
  | bl b2 =>
    cases r1 with
    | bl b1 =>
      have e' : some (decide (b1 = b2)) = some b0 := e1
      cases e'
      exact .inr ⟨b1, b2, rfl, rfl, p.ret s (.bl _)⟩
    | _ => cases e1
  | _ => cases e1
/-- x in t, t a tuple of data -/
def rInT (K : PySem.W.Frag) : R2 := fun x y H Q => ∃ d ds, Dp K H x d ∧ Dp K H y (.tuple ds) ∧ SeqAt.shaped d = true ∧ SeqAt.shaped (.tuple ds) = true ∧ Q (.bl (ds.any fun z => PyData.eqv z d)) H
def rNotInT (K : PySem.W.Frag) : R2 := fun x y H Q => ∃ d ds, Dp K H x d ∧ Dp K H y (.tuple ds) ∧ SeqAt.shaped d = true ∧ SeqAt.shaped (.tuple ds) = true ∧ Q (.bl (!ds.any fun z => PyData.eqv z d)) H
theorem op_inT (hu : X.A.units + 65 < cLine) : OpR X (compareOp .In) (rInT X.K) := by
  intro pins s σ H x y v u Q I rx ry h
  obtain ⟨d, ds, hd, he, sd, se, q⟩ := h
  obtain ⟨as, r1⟩ := Dp.reads I d x v hd rx
  obtain ⟨bs, r2⟩ := Dp.reads I (.tuple ds) y u he ry
  exact SeqAt.in_tuple_reads r2 r1 (SeqAt.canLay_of_shaped se) (SeqAt.canLay_of_shaped sd) (room_in_shaped sd hu) ⟨.bl _, H, I, rfl, q⟩
theorem op_notInT (hu : X.A.units + 65 < cLine) : OpR X (compareOp .NotIn) (rNotInT X.K) := by
  intro pins s σ H x y v u Q I rx ry h
  obtain ⟨d, ds, hd, he, sd, se, q⟩ := h
  obtain ⟨as, r1⟩ := Dp.reads I d x v hd rx
  obtain ⟨bs, r2⟩ := Dp.reads I (.tuple ds) y u he ry
  exact SeqAt.notIn_tuple_reads r2 r1 (SeqAt.canLay_of_shaped se) (SeqAt.canLay_of_shaped sd) (room_in_shaped sd hu) ⟨.bl _, H, I, rfl, q⟩
theorem op_inDic (hu : X.A.units + 1 < cLine) : OpR X (compareOp .In) (fun x y H Q => ∃ a o, y = .ref a ∧ DGet H a x o ∧ Q (.bl o.isSome) H) := by
  intro pins s σ H x y v u Q I rx ry h
  obtain ⟨a, o, rfl, g, q⟩ := h
  cases ry
  exact d_in hu I g rx fun s' I' => ⟨.bl _, H, I', rfl, q⟩
theorem op_notInDic (hu : X.A.units + 1 < cLine) : OpR X (compareOp .NotIn) (fun x y H Q => ∃ a o, y = .ref a ∧ DGet H a x o ∧ Q (.bl (!o.isSome)) H) := by
  intro pins s σ H x y v u Q I rx ry h
  obtain ⟨a, o, rfl, g, q⟩ := h
  cases ry
  exact d_notIn hu I g rx fun s' I' => ⟨.bl _, H, I', rfl, q⟩
theorem keyOf_rep {K : PySem.W.Frag} {H : Hp} {L : Addr → Prop} {loc : Loc} {v : V} {d : D} (r : Rep K H L loc v d) {k : Key} (h : keyOf d = some k) : v = kV k := by
  cases r <;> cases h <;> rfl
theorem lookK_rep {K : PySem.W.Frag} {H : Hp} {L : Addr → Prop} {loc : Loc} (k : Key) : ∀ {kvs : List (Key × V)} {ds : List (Key × D)}, RepK K H L loc kvs ds →
    (∀ d, lookK k ds = some d → ∃ v, valV kvs k = some v ∧ Rep K H L loc v d) ∧ (lookK k ds = none → valV kvs k = none)
  | _, _, .nil => ⟨fun d h => (nomatch h), fun _ => valV_nil⟩
  | _, _, .cons (k := j) (v := v) (d := d) r t => by
    obtain ⟨i1, i2⟩ := lookK_rep k t
    by_cases e : j = k
    · subst e
      refine ⟨fun x h => ?_, fun h => ?_⟩
      · rw [lookK, if_pos rfl] at h
        cases h
        exact ⟨v, valV_pos rfl, r⟩
      · rw [lookK, if_pos rfl] at h
        cases h
    · refine ⟨fun x h => ?_, fun h => ?_⟩
      · rw [lookK, if_neg e] at h
        obtain ⟨w, h1, h2⟩ := i1 x h
        exact ⟨w, by rw [valV_neg (p := (j, v)) e]; exact h1, h2⟩
      · rw [lookK, if_neg e] at h
        rw [valV_neg (p := (j, v)) e]
        exact i2 h
theorem lookK_some {K : PySem.W.Frag} {H : Hp} {L : Addr → Prop} {loc : Loc} (k : Key) {kvs : List (Key × V)} {ds : List (Key × D)} (r : RepK K H L loc kvs ds) : (valV kvs k).isSome = (lookK k ds).isSome := by
  obtain ⟨h1, h2⟩ := lookK_rep k r
  cases e : lookK k ds with
  | none =>
    rw [h2 e]
    rfl
  | some d =>
    obtain ⟨v, q, _⟩ := h1 d e
    rw [q]
    rfl
/-- what stands at a dict -/
theorem dic_at {K : PySem.W.Frag} {H : Hp} {m : MH} {loc : Loc} (s : Sim K H m loc) {v : V} {n : Nat} (r : RepM K H m loc v (.ref n)) {kvs : List (Key × D)} (e : m[n]? = some (.dic kvs)) :
    ∃ a ks, v = .ref a ∧ loc.l[n]? = some a ∧ H a = some (.dK ks) ∧ RepK K H (Live m loc) loc ks kvs := by
  cases r with
  | @ref a n h =>
    obtain ⟨ks, h1, h2⟩ := s.cell n _ a e h
    exact ⟨a, ks, rfl, h, h1, h2⟩
theorem lst_at {K : PySem.W.Frag} {H : Hp} {m : MH} {loc : Loc} (s : Sim K H m loc) {v : V} {n : Nat} (r : RepM K H m loc v (.ref n)) {xs : List D} (e : m[n]? = some (.lst xs)) :
    ∃ a vs, v = .ref a ∧ loc.l[n]? = some a ∧ H a = some (.lst vs) ∧ vs.length ≤ LIM ∧ Reps K H (Live m loc) loc vs xs := by
  cases r with
  | @ref a n h =>
    obtain ⟨vs, h1, h2, h3⟩ := s.cell n _ a e h
    exact ⟨a, vs, rfl, h, h1, h2, h3⟩
theorem inS_of {x : D} {ys : List D} {b : Bool} (h : inS x ys = some b) : dep x ≤ 60 ∧ depA ys ≤ 59 ∧ b = ys.any fun z => eqD z x := by
  unfold inS at h
  split at h
  · rename_i hz
    rw [Bool.and_eq_true] at hz
    exact ⟨okD_iff hz.1, of_decide_eq_true hz.2, (Option.some.inj h).symm⟩
  · cases h
theorem shapedA_t {ys : List D} (h : depA ys ≤ 59) : SeqAt.shaped (.tuple (toPyA ys)) = true := by
  have q := shaped_of (x := .tup ys) (by simp only [dep]; omega)
  rwa [toPy] at q
theorem shapedA_l {ys : List D} (h : depA ys ≤ 59) : SeqAt.shaped (.list (toPyA ys)) = true := by
  have q := shaped_of (x := .lst ys) (by simp only [dep]; omega)
  rwa [toPy] at q
theorem ok_in (hK : X.K = Γ.K) (hu : X.A.units + 65 < cLine) : OpOk X Γ (compareOp .In) (fun m x y => (cmpM m .in_ x y).map D.bl) := by
  refine ⟨_, (op_inT hu).or ((op_inD hu).or (op_inDic (by omega))), fun W H m loc v1 v2 d1 d2 d Q s r1 r2 e p => ?_⟩
  obtain ⟨b, e1, e2⟩ := Option.map_eq_some_iff.mp e
  subst e2
  have e1 : inM m d1 d2 = some b := e1
  have lists : ∀ {a : Addr} {vs : List V} {ys : List D}, v2 = .ref a → H a = some (.lst vs) → Reps Γ.K H (Live m loc) loc vs ys → inS d1 ys = some b → rInD X.K v1 v2 H Q := fun {a vs ys} ev h1 h2 h3 => by
    obtain ⟨q1, q2, q3⟩ := inS_of h3
    refine ⟨_, _, hK ▸ dp_of r1 (by omega), ?_, shaped_of q1, shapedA_l q2, ?_⟩
    · rw [ev]
      exact .lst (SqL.of h1) (hK ▸ dpA_of h2 (by omega))
    · rw [any_toPy d1 (by omega) ys (by omega), ← q3]
      exact p.ret s (.bl _)
  have dics : ∀ {a : Addr} {ks : List (Key × V)} {kvs : List (Key × D)}, v2 = .ref a → H a = some (.dK ks) → RepK Γ.K H (Live m loc) loc ks kvs → inK d1 kvs = some b → (∃ a o, v2 = .ref a ∧ DGet H a v1 o ∧ Q (.bl o.isSome) H) := fun {a ks kvs} ev h1 h2 h3 => by
    obtain ⟨k, e1, e2⟩ := Option.map_eq_some_iff.mp h3
    refine ⟨a, valV ks k, ev, ?_, ?_⟩
    · rw [keyOf_rep r1 e1]
      exact DGet.k h1
    · rw [lookK_some k h2, e2]
      exact p.ret s (.bl _)
  cases d2 with
  | tup ys =>
    cases r2 with
    | @tup a vs _ h z q =>
      obtain ⟨q1, q2, q3⟩ := inS_of (show inS d1 ys = some b from e1)
      refine .inl ⟨_, _, hK ▸ dp_of r1 (by omega), .tup (hK ▸ tupS h) (hK ▸ dpA_of q (by omega)), shaped_of q1, shapedA_t q2, ?_⟩
      rw [any_toPy d1 (by omega) ys (by omega), ← q3]
      exact p.ret s (.bl _)
  | lst ys =>
    cases r2 with
    | lst h nl z q => exact .inr (.inl (lists rfl h q e1))
  | dic kvs =>
    cases r2 with
    | dic h nl q => exact .inr (.inr (dics rfl h q e1))
  | ref n =>
    have e1' : (match m[n]? with
      | some (.dic kvs) => inK d1 kvs
      | some (.lst ys) => inS d1 ys
      | _ => none) = some b := e1
    cases q : m[n]? with
    | none =>
      rw [q] at e1'
      cases e1'
    | some c =>
      rw [q] at e1'
      cases c with
      | lst ys =>
        obtain ⟨a, vs, ev, _, h1, _, h2⟩ := lst_at s r2 q
        exact .inr (.inl (lists ev h1 h2 e1'))
      | dic kvs =>
        obtain ⟨a, ks, ev, _, h1, h2⟩ := dic_at s r2 q
        exact .inr (.inr (dics ev h1 h2 e1'))
      | _ => cases e1'
  | _ => cases e1
theorem ok_notin (hK : X.K = Γ.K) (hu : X.A.units + 65 < cLine) : OpOk X Γ (compareOp .NotIn) (fun m x y => (cmpM m .notin x y).map D.bl) := by
  refine ⟨_, (op_notInT hu).or ((op_notInD hu).or (op_notInDic (by omega))), fun W H m loc v1 v2 d1 d2 d Q s r1 r2 e p => ?_⟩
  obtain ⟨b, e1, e2⟩ := Option.map_eq_some_iff.mp e
  subst e2
  obtain ⟨b0, e3, e2⟩ := Option.map_eq_some_iff.mp (show (inM m d1 d2).map (!·) = some b from e1)
  subst e2
  clear e1
  have e1 := e3
  clear e3
  have lists : ∀ {a : Addr} {vs : List V} {ys : List D}, v2 = .ref a → H a = some (.lst vs) → Reps Γ.K H (Live m loc) loc vs ys → inS d1 ys = some b0 → rNotInD X.K v1 v2 H Q := fun {a vs ys} ev h1 h2 h3 => by
    obtain ⟨q1, q2, q3⟩ := inS_of h3
    refine ⟨_, _, hK ▸ dp_of r1 (by omega), ?_, shaped_of q1, shapedA_l q2, ?_⟩
    · rw [ev]
      exact .lst (SqL.of h1) (hK ▸ dpA_of h2 (by omega))
    · rw [any_toPy d1 (by omega) ys (by omega), ← q3]
      exact p.ret s (.bl _)
  have dics : ∀ {a : Addr} {ks : List (Key × V)} {kvs : List (Key × D)}, v2 = .ref a → H a = some (.dK ks) → RepK Γ.K H (Live m loc) loc ks kvs → inK d1 kvs = some b0 → (∃ a o, v2 = .ref a ∧ DGet H a v1 o ∧ Q (.bl (!o.isSome)) H) := fun {a ks kvs} ev h1 h2 h3 => by
    obtain ⟨k, e1, e2⟩ := Option.map_eq_some_iff.mp h3
    refine ⟨a, valV ks k, ev, ?_, ?_⟩
    · rw [keyOf_rep r1 e1]
      exact DGet.k h1
    · rw [lookK_some k h2, e2]
      exact p.ret s (.bl _)
  cases d2 with
  | tup ys =>
    cases r2 with
    | @tup a vs _ h z q =>
      obtain ⟨q1, q2, q3⟩ := inS_of (show inS d1 ys = some b0 from e1)
      refine .inl ⟨_, _, hK ▸ dp_of r1 (by omega), .tup (hK ▸ tupS h) (hK ▸ dpA_of q (by omega)), shaped_of q1, shapedA_t q2, ?_⟩
      rw [any_toPy d1 (by omega) ys (by omega), ← q3]
      exact p.ret s (.bl _)
  | lst ys =>
    cases r2 with
    | lst h nl z q => exact .inr (.inl (lists rfl h q e1))
  | dic kvs =>
    cases r2 with
    | dic h nl q => exact .inr (.inr (dics rfl h q e1))
  | ref n =>
    have e1' : (match m[n]? with
      | some (.dic kvs) => inK d1 kvs
      | some (.lst ys) => inS d1 ys
      | _ => none) = some b0 := e1
    cases q : m[n]? with
    | none =>
      rw [q] at e1'
      cases e1'
    | some c =>
      rw [q] at e1'
      cases c with
      | lst ys =>
        obtain ⟨a, vs, ev, _, h1, _, h2⟩ := lst_at s r2 q
        exact .inr (.inl (lists ev h1 h2 e1'))
      | dic kvs =>
        obtain ⟨a, ks, ev, _, h1, h2⟩ := dic_at s r2 q
        exact .inr (.inr (dics ev h1 h2 e1'))
      | _ => cases e1'
  | _ => cases e1
end
end Mi
/-! Mini: expressions. -/
namespace Mi
open PySem PySem.Spec PyProof.Rows L2
variable [Glb]
def plainE : Expr → Bool
  | .Starred .. => false
  | .Set .. => false
  | .Slice .. => false
  | _ => true
theorem starEach_cons {e : Expr} {es : List Expr} {env : PySem.Env} (h : plainE e = true) : starEach (e :: es) env = (false, PySem.eval e env) :: starEach es env := by
  cases e <;> first | rfl | cases h
theorem nomarks {op : CmpOp} {e : Expr} (h : plainE e = true) : behindInMarks op e = false := by
  cases e <;> first | rfl | cases h
theorem nolast {op op' : CmpOp} {b c : Expr} (h : plainE c = true) : lastMarks [op, op'] [b, c] = false := by
  show behindInMarks op' c = false
  exact nomarks h
theorem noslice {e : Expr} (h : plainE e = true) (o i : Value) : subscripted e false o i = operate [o, i] (getItem o i) := by
  cases e <;> first | rfl | cases h
theorem nostars {env : PySem.Env} {pos : Pos} : ∀ {es : List Expr}, (∀ e ∈ es, plainE e = true) → (backTo pos (starEach es env)).any (·.1) = false
  | [], _ => rfl
  | e :: es, h => by
    rw [starEach_cons (h e List.mem_cons_self)]
    show (false || (backTo pos (starEach es env)).any (·.1)) = false
    rw [nostars (es := es) fun x hx => h x (List.mem_cons_of_mem _ hx)]
    rfl
section
variable {X : Cx} {Γ : Gam} {C : Call} {G : Nat → Option D} {a b c e : Expr} {es : List Expr} {ea eb ec ev : Env → MH → R D} {evs : Env → MH → R (List D)} {pos p : Pos} {x : Str}
theorem se_var {i : Nat} (hN : X.N[i]? = some x) (hv : Vis X.env.scope x) (hd : (x == ("__debug__" : Str)) = false) (hcd : (x == ("__classdict__" : Str)) = false) : SE Γ X (.Name x pos) (eval G C (.var i)) := fun W tk =>
  wkE (pe_var hN hv hd hcd) fun σ H Q ⟨env, m, loc, A, p⟩ => by
    have p' : Po Γ (fun c d H => W c d σ H) H m loc (rlD Γ) (match env[i]? with
      | some (some d) => R.ok d m
      | _ => .stuck) Q := p
    split at p'
    · rename_i d h
      obtain ⟨v, h1, h2⟩ := A.2.at_ i d h
      exact ⟨v, h1, p'.ret A.1 h2⟩
    · exact p'.elim
/-- a constant that stands as it is -/
def cstV : D → Option V
  | .non => some .non
  | .bl b => some (.bl b)
  | .int i => some (.int i)
  | .str s => some (.str s)
  | _ => none
theorem cstV_rep {K : PySem.W.Frag} {H : Hp} {L : Addr → Prop} {loc : Loc} {d : D} {v : V} (h : cstV d = some v) : Rep K H L loc v d := by
  cases d <;> cases h
  · exact .non
  · exact .bl _
  · exact .int _
  · exact .str _
theorem se_cst {d : D} {v : V} (hp : PE X e (tC v)) (h : cstV d = some v) : SE Γ X e (eval G C (.cst d)) := fun W tk =>
  wkE hp fun σ H Q ⟨env, m, loc, A, p⟩ => (show Po Γ (fun c d H => W c d σ H) H m loc (rlD Γ) (.ok d m) Q from p).ret A.1 (cstV_rep h)
theorem se_glb {j : Nat} {d : D} {v : V} (hp : PE X e (tC v)) (hj : G j = some d) (h : ∀ H L loc, Rep Γ.K H L loc v d) : SE Γ X e (eval G C (.glb j)) := fun W tk =>
  wkE hp fun σ H Q ⟨env, m, loc, A, p⟩ => by
    have p' : Po Γ (fun c d H => W c d σ H) H m loc (rlD Γ) (ofO (G j) m) Q := p
    rw [hj] at p'
    exact (show Po Γ (fun c d H => W c d σ H) H m loc (rlD Γ) (.ok d m) Q from p').ret A.1 (h _ _ _)
theorem sa_nil : SA Γ X [] (evals G C []) := fun W tk =>
  wkA pa_nil fun σ H Q ⟨env, m, loc, A, p⟩ => (show Po Γ (fun c d H => W c d σ H) H m loc (rlA Γ) (.ok [] m) Q from p).ret A.1 .nil
theorem sa_cons (hp : plainE e = true) (ha : SE Γ X e ev) (hr : SA Γ X es evs) : SA Γ X (e :: es) (fun env m => (ev env m).bind fun d m => (evs env m).bind fun ds m => .ok (d :: ds) m) := fun W tk =>
  wkA (pa_cons (ha W tk) (hr W tk) (starEach_cons hp)) fun σ H Q ⟨env, m, loc, A, p⟩ => sub A p fun v1 H1 d1 m1 loc1 _ A1 k1 r1 p1 => sub A1 p1 fun vs H2 ds m2 loc2 _ A2 k2 r2 p2 => p2.ret A2.1 (.cons (r1.mono k2) r2)
theorem evals_len : ∀ {es : List E} {env : Env} {m m' : MH} {ds : List D}, evals G C es env m = .ok ds m' → ds.length = es.length
  | [], _, _, _, _, h => by
    cases h
    rfl
  | e :: es, env, m, m', ds, h => by
    have h' : (eval G C e env m).bind (fun d m => (evals G C es env m).bind fun ds m => .ok (d :: ds) m) = R.ok ds m' := h
    cases q : eval G C e env m with
    | ok d m1 =>
      rw [q] at h'
      have h2 : (evals G C es env m1).bind (fun ds m => R.ok (d :: ds) m) = R.ok ds m' := h'
      cases q2 : evals G C es env m1 with
      | ok ds2 m2 =>
        rw [q2] at h2
        have h3 : R.ok (d :: ds2) m2 = R.ok ds m' := h2
        cases h3
        exact congrArg (· + 1) (evals_len q2)
      | exc x m2 =>
        rw [q2] at h2
        cases h2
      | stuck =>
        rw [q2] at h2
        cases h2
    | exc x m1 =>
      rw [q] at h'
      cases h'
    | stuck =>
      rw [q] at h'
      cases h'
theorem se_tup {k : Nat} {ms : List E} (hr : SA Γ X es (evals G C ms)) (hl : ms.length ≤ 1000) : SE Γ X (.Tuple es k pos) (eval G C (.tup ms)) := fun W tk =>
  wkE (pe_tup (hr W tk)) fun σ H Q ⟨env, m, loc, A, p⟩ => sub A (show Po Γ (fun c d H => W c d σ H) H m loc (rlD Γ) ((evals G C ms env m).bind fun ds m => .ok (.tup ds) m) Q from p) fun vs H1 ds m1 loc1 e1 A1 k1 r1 p1 => by
    have z : vs.length ≤ LIM := by
      rw [r1.length, evals_len e1]
      exact Nat.le_trans hl (by decide)
    exact ⟨lim_le z, p1.tup A1.1 r1 z⟩
theorem se_lst {ms : List E} (hr : SA Γ X es (evals G C ms)) (hl : ms.length ≤ 1000) : SE Γ X (.List es pos) (eval G C (.lst ms)) := fun W tk =>
  wkE (pe_lst (hr W tk)) fun σ H Q ⟨env, m, loc, A, p⟩ => sub A (show Po Γ (fun c d H => W c d σ H) H m loc (rlD Γ) ((evals G C ms env m).bind fun ds m => .ok (.lst ds) m) Q from p) fun vs H1 ds m1 loc1 e1 A1 k1 r1 p1 => by
    have z : vs.length ≤ LIM := by
      rw [r1.length, evals_len e1]
      exact Nat.le_trans hl (by decide)
    exact ⟨lim_le z, p1.lst A1.1 r1 z⟩
theorem se_newl {ms : List E} (hr : SA Γ X es (evals G C ms)) (hl : ms.length ≤ 1000) : SE Γ X (.List es pos) (eval G C (.newl ms)) := fun W tk =>
  wkE (pe_lst (hr W tk)) fun σ H Q ⟨env, m, loc, A, p⟩ => sub A (show Po Γ (fun c d H => W c d σ H) H m loc (rlD Γ) ((evals G C ms env m).bind fun ds m => .ok (.ref m.length) (m ++ [.lst ds])) Q from p) fun vs H1 ds m1 loc1 e1 A1 k1 r1 p1 => by
    have z : vs.length ≤ LIM := by
      rw [r1.length, evals_len e1]
      exact Nat.le_trans hl (by decide)
    refine ⟨lim_le z, fun q hq => p1 _ _ (loc1.push q) ?_ (kp_push A1.1 hq) (.ref ?_)⟩
    · exact A1.1.push hq ⟨vs, upd_same, z, r1.mono (kp_push A1.1 hq)⟩
    · exact push_at A1.1
/-! ### chains, and, or, not -/
def CmpOk (X : Cx) (Γ : Gam) (op : CmpOp) (o : COp) : Prop := OpOk X Γ (compareOp op) (fun m x y => (cmpM m o x y).map D.bl)
theorem po_bl {W : Value → Option Addr → Hp → Prop} {H : Hp} {m : MH} {loc : Loc} {k : Bool} {T : VK} (h : T (.bl k) H) (hm : ∀ H', KpM H m loc H' m loc → True) : True := True.intro
theorem se_chn {op op' : CmpOp} {o o' : COp} (h1 : CmpOk X Γ op o) (h2 : CmpOk X Γ op' o') (hp : plainE c = true) (ha : SE Γ X a ea) (hb : SE Γ X b eb) (hc : SE Γ X c ec) :
    SE Γ X (.Compare a [op, op'] [b, c] pos) (fun env m => (ea env m).bind fun x m => (eb env m).bind fun y m => match cmpM m o x y with
      | some true => (ec env m).bind fun z m => ofO ((cmpM m o' y z).map D.bl) m
      | some false => .ok (.bl false) m
      | none => .stuck) := fun W tk => by
  obtain ⟨r, hr, hg⟩ := h1
  obtain ⟨r', hr', hg'⟩ := h2
  refine wkE (pe_chain hr hr' (ha W tk) (hb W tk) (hc W tk) (nolast hp)) fun σ H Q ⟨env, m, loc, A, p⟩ => sub A p fun v1 H1 d1 m1 loc1 _ A1 k1 r1 p1 => sub A1 p1 fun v2 H2 d2 m2 loc2 _ A2 k2 r2 p2 => ?_
  cases q : cmpM m2 o d1 d2 with
  | none =>
    rw [q] at p2
    exact (show False from p2).elim
  | some k =>
    rw [q] at p2
    refine hg (fun _ _ _ => False) H2 m2 loc2 v1 v2 d1 d2 (.bl k) _ A2.1 (r1.mono k2) r2 (by dsimp only; rw [q]; rfl) (fun v H3 loc3 s3 k3 r3 => ?_)
    have ev : v = .bl k := by cases r3; rfl
    refine ⟨k, ev, ?_⟩
    have A3 : At Γ σ H3 env m2 loc3 := A2.go s3 k3
    cases k with
    | false =>
      rw [if_neg Bool.false_ne_true]
      exact p2 _ _ _ s3 k3 (.bl _)
    | true =>
      rw [if_pos rfl]
      have p2 : Po Γ (fun c d H => W c d σ H) H2 m2 loc2 (rlD Γ) ((ec env m2).bind fun z m => ofO ((cmpM m o' d2 z).map D.bl) m) Q := p2
      have p3 : Po Γ (fun c d H => W c d σ H) H3 m2 loc3 (rlD Γ) ((ec env m2).bind fun z m => ofO ((cmpM m o' d2 z).map D.bl) m) Q := by
        cases e2 : (ec env m2).bind fun z m => ofO ((cmpM m o' d2 z).map D.bl) m with
        | ok d m' =>
          rw [e2] at p2
          exact fun v H' l' s' k' r' => p2 v H' l' s' (k3.trans k') r'
        | exc x m' =>
          rw [e2] at p2
          exact fun H' l' s' k' => p2 H' l' s' (k3.trans k')
        | stuck =>
          rw [e2] at p2
          exact p2
      refine sub A3 p3 fun v4 H4 d4 m4 loc4 _ A4 k4 r4 p4 => ?_
      obtain ⟨d, e5, p5⟩ := p4.ofO
      exact hg' _ H4 m4 loc4 v2 v4 d2 d4 d Q A4.1 ((r2.mono k3).mono k4) r4 e5 p5
/-- from an earlier heap -/
theorem Po.later {α β : Type} {Rl : Hp → MH → Loc → β → α → Prop} {W : Value → Option Addr → Hp → Prop} {H H' : Hp} {m m' : MH} {loc loc' : Loc} {r : R α} {Q : β → Hp → Prop} (p : Po Γ W H m loc Rl r Q) (k : KpM H m loc H' m' loc') : Po Γ W H' m' loc' Rl r Q := by
  cases r with
  | ok d m2 => exact fun v H2 l2 s2 k2 r2 => p v H2 l2 s2 (k.trans k2) r2
  | exc x m2 => exact fun H2 l2 s2 k2 => p H2 l2 s2 (k.trans k2)
  | stuck => exact p
theorem se_nt (ha : SE Γ X a ea) : SE Γ X (.UnaryOp .Not a pos) (fun env m => (ea env m).bind fun x m => match x with
    | .bl b => .ok (.bl (!b)) m
    | _ => .stuck) := fun W tk => wkE (pe_not (ha W tk)) fun σ H Q ⟨env, m, loc, A, p⟩ => sub A p fun v1 H1 d1 m1 loc1 _ A1 k1 r1 p1 => by
  cases d1 with
  | bl k =>
    cases r1
    exact ⟨k, rfl, p1.ret A1.1 (.bl _)⟩
  | _ => exact (show False from p1).elim
theorem se_neg (ha : SE Γ X a ea) : SE Γ X (.UnaryOp .USub a pos) (fun env m => (ea env m).bind fun x m => match x with
    | .int i => .ok (.int (-i)) m
    | _ => .stuck) := fun W tk => wkE (pe_un un_neg (ha W tk)) fun σ H Q ⟨env, m, loc, A, p⟩ => sub A p fun v1 H1 d1 m1 loc1 _ A1 k1 r1 p1 => by
  cases d1 with
  | int k =>
    cases r1
    exact ⟨k, rfl, p1.ret A1.1 (.int _)⟩
  | _ => exact (show False from p1).elim
theorem se_ite {t : Expr} {et : Env → MH → R D} (ht : ST Γ X t (fun env m => test (et env m))) (ha : SE Γ X a ea) (hb : SE Γ X b eb) : SE Γ X (.IfExp t a b pos) (fun env m => (et env m).bind fun x m => match truth m x with
    | some true => ea env m
    | some false => eb env m
    | none => .stuck) := fun W tk => wkE (pe_ifExp (ht W tk) (ha W tk) (hb W tk)) fun σ H Q ⟨env, m, loc, A, p⟩ => by
  have p' : Po Γ (fun c d H => W c d σ H) H m loc (rlD Γ) ((test (et env m)).bind fun k m => match k with
    | true => ea env m
    | false => eb env m) Q := by
    have e : ((test (et env m)).bind fun k m => match k with
      | true => ea env m
      | false => eb env m) = (et env m).bind fun x m => match truth m x with
        | some true => ea env m
        | some false => eb env m
        | none => .stuck := by
      unfold test
      cases et env m with
      | ok d m1 =>
        show (ofO (truth m1 d) m1).bind _ = _
        cases q : truth m1 d with
        | none =>
          simp only [R.bind, ofO, q]
        | some k => cases k <;> simp only [R.bind, ofO, q]
      | exc x m1 => rfl
      | stuck => rfl
    rw [e]
    exact p
  refine sub A p' fun k H1 d1 m1 loc1 _ A1 k1 r1 p1 => ?_
  have e : k = d1 := r1
  subst e
  cases k with
  | true => exact ⟨env, m1, loc1, A1, p1⟩
  | false => exact ⟨env, m1, loc1, A1, p1⟩
/-- and, or -/
theorem se_bo1 {k : Bool} {op : BoolOp} {e0 : E} (ha : SE Γ X a (eval G C e0)) : SE Γ X (.BoolOp op [a] pos) (evalB G C k [e0]) := fun W tk => wkE (pe_one (ha W tk)) fun σ H Q h => h
theorem evalB_cons {k : Bool} {e0 e1 : E} {es : List E} {env : Env} {m : MH} : evalB G C k (e0 :: e1 :: es) env m = (eval G C e0 env m).bind fun x m => match x with
    | .bl b => if b = k then evalB G C k (e1 :: es) env m else .ok (.bl b) m
    | _ => .stuck := rfl
theorem se_and {e0 e1 : E} {ms : List E} (ha : SE Γ X a (eval G C e0)) (hb : SE Γ X (.BoolOp .And (b :: es) pos) (evalB G C true (e1 :: ms))) : SE Γ X (.BoolOp .And (a :: b :: es) pos) (evalB G C true (e0 :: e1 :: ms)) := fun W tk =>
  wkE (pe_and (ha W tk) (hb W tk)) fun σ H Q ⟨env, m, loc, A, p⟩ => by
    rw [evalB_cons] at p
    refine sub A p fun v1 H1 d1 m1 loc1 _ A1 k1 r1 p1 => ?_
    cases d1 with
    | bl k =>
      cases r1
      refine ⟨k, rfl, ?_⟩
      cases k with
      | true =>
        rw [if_pos rfl]
        exact ⟨env, m1, loc1, A1, p1⟩
      | false =>
        rw [if_neg Bool.false_ne_true]
        exact (show Po Γ (fun c d H => W c d σ H) H1 m1 loc1 (rlD Γ) (.ok (.bl false) m1) Q from p1).ret A1.1 (.bl _)
    | _ => exact (show False from p1).elim
theorem se_or {e0 e1 : E} {ms : List E} (ha : SE Γ X a (eval G C e0)) (hb : SE Γ X (.BoolOp .Or (b :: es) pos) (evalB G C false (e1 :: ms))) : SE Γ X (.BoolOp .Or (a :: b :: es) pos) (evalB G C false (e0 :: e1 :: ms)) := fun W tk =>
  wkE (pe_or (ha W tk) (hb W tk)) fun σ H Q ⟨env, m, loc, A, p⟩ => by
    rw [evalB_cons] at p
    refine sub A p fun v1 H1 d1 m1 loc1 _ A1 k1 r1 p1 => ?_
    cases d1 with
    | bl k =>
      cases r1
      refine ⟨k, rfl, ?_⟩
      cases k with
      | true =>
        rw [if_pos rfl]
        exact (show Po Γ (fun c d H => W c d σ H) H1 m1 loc1 (rlD Γ) (.ok (.bl true) m1) Q from p1).ret A1.1 (.bl _)
      | false =>
        rw [if_neg Bool.false_ne_true]
        exact ⟨env, m1, loc1, A1, p1⟩
    | _ => exact (show False from p1).elim
/-! ### tests -/
theorem truth_rep {K : PySem.W.Frag} {H : Hp} {m : MH} {loc : Loc} (s : Sim K H m loc) {v : V} {d : D} (r : RepM K H m loc v d) {k : Bool} (h : truth m d = some k) : TruV K v H k := by
  cases d with
  | non =>
    cases r
    cases h
    exact rfl
  | bl b =>
    cases r
    cases h
    exact rfl
  | int i =>
    cases r
    cases h
    exact rfl
  | str s =>
    cases r
    have h' : (if s.length ≤ LIM then some ((s.length : Int) != 0) else none) = some k := h
    split at h'
    · rename_i z
      cases h'
      exact ⟨lim_le z, rfl⟩
    · cases h'
  | tup xs =>
    cases r with
    | @tup a vs _ h1 z q =>
      have h' : some (!xs.isEmpty) = some k := h
      cases h'
      refine .inr (.inl ⟨vs, tupS h1, ?_⟩)
      cases q <;> rfl
  | lst xs =>
    cases r with
    | @lst a vs _ h1 nl z q =>
      have h' : some (!xs.isEmpty) = some k := h
      cases h'
      refine .inl ⟨vs, SqL.of h1, ?_⟩
      cases q <;> rfl
  | dic _ => cases h
  | scr _ => cases h
  | cls _ => cases h
  | ref n =>
    have h' : (match m[n]? with
      | some (.lst xs) => some (!xs.isEmpty)
      | _ => none) = some k := h
    cases q : m[n]? with
    | none =>
      rw [q] at h'
      cases h'
    | some c =>
      rw [q] at h'
      cases c with
      | lst xs =>
        cases h'
        obtain ⟨a, vs, rfl, _, h1, _, h2⟩ := lst_at s r q
        refine .inl ⟨vs, SqL.of h1, ?_⟩
        cases h2 <;> rfl
      | _ => cases h'
theorem st_plain (hK : X.K = Γ.K) (ha : SE Γ X a ea) (he : ∀ whole, isTrue a X.env whole = (do let v ← whole; standAt a.pos; holding [v] (truthy v))) : ST Γ X a (fun env m => test (ea env m)) := fun W tk =>
  wkT (pt_truth (ha W tk) he) fun σ H Q ⟨env, m, loc, A, p⟩ => sub A (show Po Γ (fun c d H => W c d σ H) H m loc rlB ((ea env m).bind fun x m => ofO (truth m x) m) Q from p) fun v1 H1 d1 m1 loc1 _ A1 k1 r1 p1 => by
    obtain ⟨k, e, p2⟩ := p1.ofO
    exact ⟨k, hK ▸ truth_rep A1.1 r1 e, p2.ret A1.1 rfl⟩
theorem st_not (ha : ST Γ X a (fun env m => test (ea env m))) : ST Γ X (.UnaryOp .Not a pos) (fun env m => test ((ea env m).bind fun x m => match x with
    | .bl b => .ok (.bl (!b)) m
    | _ => .stuck)) := fun W tk => wkT (pt_not (ha W tk)) fun σ H Q ⟨env, m, loc, A, p⟩ => by
  refine ⟨env, m, loc, A, ?_⟩
  unfold test at p ⊢
  dsimp only at p ⊢
  cases e : ea env m with
  | ok d m1 =>
    rw [e] at p
    cases d with
    | bl k =>
      have p' : Po Γ (fun c d H => W c d σ H) H m loc rlB (.ok (!k) m1) Q := p
      exact fun v H' l' s' k' r' => by
        have e : v = k := r'
        subst e
        exact p' _ H' l' s' k' rfl
    | _ => exact (show False from p).elim
  | exc x m1 =>
    rw [e] at p
    exact p
  | stuck =>
    rw [e] at p
    exact p
theorem st_if {t : Expr} {et : Env → MH → R D} (ht : ST Γ X t (fun env m => test (et env m))) (ha : ST Γ X a (fun env m => test (ea env m))) (hb : ST Γ X b (fun env m => test (eb env m))) : ST Γ X (.IfExp t a b pos) (fun env m => test ((et env m).bind fun x m => match truth m x with
    | some true => ea env m
    | some false => eb env m
    | none => .stuck)) := fun W tk => by
  refine wkT (t := fun σ H Q => tT Γ W (fun env m => test (et env m)) σ H fun k H1 => if k = true then tT Γ W (fun env m => test (ea env m)) σ H1 Q else tT Γ W (fun env m => test (eb env m)) σ H1 Q) ⟨fun pins s σ H Q I h => ?_⟩ fun σ H Q ⟨env, m, loc, A, p⟩ => ?_
  · refine isTrue_IfExp (thn ((ht W tk).run pins s σ H _ I h) fun d s1 ⟨H1, I1, q1⟩ => ?_)
    cases d with
    | true => exact (ha W tk).run pins s1 σ H1 Q I1 q1
    | false => exact (hb W tk).run pins s1 σ H1 Q I1 q1
  · have e : test ((et env m).bind fun x m => match truth m x with
        | some true => ea env m
        | some false => eb env m
        | none => .stuck) = (test (et env m)).bind fun k m => match k with
          | true => test (ea env m)
          | false => test (eb env m) := by
      unfold test
      cases et env m with
      | ok d m1 =>
        show (match truth m1 d with
          | some true => ea env m1
          | some false => eb env m1
          | none => .stuck).bind _ = (ofO (truth m1 d) m1).bind _
        cases q : truth m1 d with
        | none => rfl
        | some k => cases k <;> rfl
      | exc x m1 => rfl
      | stuck => rfl
    dsimp only at p
    rw [e] at p
    refine sub A p fun k H1 d1 m1 loc1 _ A1 k1 r1 p1 => ?_
    have e : k = d1 := r1
    subst e
    cases k with
    | true => exact ⟨env, m1, loc1, A1, p1⟩
    | false => exact ⟨env, m1, loc1, A1, p1⟩
theorem st_cmp {op : CmpOp} {g : MH → D → D → Option D} (o : OpOk X Γ (compareOp op) g) (hg' : ∀ m x y d, g m x y = some d → ∃ k, d = .bl k) (ha : SE Γ X a ea) (hb : SE Γ X b eb) (hm : behindInMarks op b = false) :
    ST Γ X (.Compare a [op] [b] pos) (fun env m => test ((ea env m).bind fun x m => (eb env m).bind fun y m => ofO (g m x y) m)) := fun W tk => by
  obtain ⟨r, hr, hg⟩ := o
  refine wkT (pt_cmpR hr (ha W tk) (hb W tk) hm) fun σ H Q ⟨env, m, loc, A, p⟩ => ?_
  have e : test ((ea env m).bind fun x m => (eb env m).bind fun y m => ofO (g m x y) m) = (ea env m).bind fun x m => (eb env m).bind fun y m => test (ofO (g m x y) m) := by
    unfold test
    cases ea env m with
    | ok d m1 =>
      show ((eb env m1).bind _).bind _ = (eb env m1).bind _
      cases eb env m1 <;> rfl
    | exc x m1 => rfl
    | stuck => rfl
  dsimp only at p
  rw [e] at p
  refine sub A p fun v1 H1 d1 m1 loc1 _ A1 k1 r1 p1 => sub A1 p1 fun v2 H2 d2 m2 loc2 _ A2 k2 r2 p2 => ?_
  cases q : g m2 d1 d2 with
  | none =>
    rw [q] at p2
    exact (show False from p2).elim
  | some d =>
    rw [q] at p2
    obtain ⟨k, rfl⟩ := hg' _ _ _ _ q
    have p3 : Po Γ (fun c d H => W c d σ H) H2 m2 loc2 rlB (.ok k m2) Q := p2
    refine hg (fun _ _ _ => False) H2 m2 loc2 v1 v2 d1 d2 (.bl k) _ A2.1 (r1.mono k2) r2 q (fun v H3 loc3 s3 k3 r3 => ?_)
    have ev : v = .bl k := by cases r3; rfl
    exact ⟨k, ev, p3 _ _ _ s3 k3 rfl⟩
theorem st_chn {op op' : CmpOp} {o o' : COp} (h1 : CmpOk X Γ op o) (h2 : CmpOk X Γ op' o') (hp : plainE c = true) (ha : SE Γ X a ea) (hb : SE Γ X b eb) (hc : SE Γ X c ec) :
    ST Γ X (.Compare a [op, op'] [b, c] pos) (fun env m => test ((ea env m).bind fun x m => (eb env m).bind fun y m => match cmpM m o x y with
      | some true => (ec env m).bind fun z m => ofO ((cmpM m o' y z).map D.bl) m
      | some false => .ok (.bl false) m
      | none => .stuck)) := fun W tk => by
  obtain ⟨r, hr, hg⟩ := h1
  obtain ⟨r', hr', hg'⟩ := h2
  refine wkT (pt_chain hr hr' (ha W tk) (hb W tk) (hc W tk) (nolast hp)) fun σ H Q ⟨env, m, loc, A, p⟩ => ?_
  have e : test ((ea env m).bind fun x m => (eb env m).bind fun y m => match cmpM m o x y with
      | some true => (ec env m).bind fun z m => ofO ((cmpM m o' y z).map D.bl) m
      | some false => .ok (.bl false) m
      | none => .stuck) = (ea env m).bind fun x m => (eb env m).bind fun y m => match cmpM m o x y with
      | some true => (ec env m).bind fun z m => ofO (cmpM m o' y z) m
      | some false => .ok false m
      | none => .stuck := by
    unfold test
    cases ea env m with
    | ok d m1 =>
      show ((eb env m1).bind _).bind _ = (eb env m1).bind _
      cases eb env m1 with
      | ok d2 m2 =>
        show (match cmpM m2 o d d2 with
          | some true => (ec env m2).bind fun z m => ofO ((cmpM m o' d2 z).map D.bl) m
          | some false => .ok (.bl false) m2
          | none => .stuck).bind _ = (match cmpM m2 o d d2 with
          | some true => (ec env m2).bind fun z m => ofO (cmpM m o' d2 z) m
          | some false => .ok false m2
          | none => .stuck)
        cases cmpM m2 o d d2 with
        | none => rfl
        | some k =>
          cases k with
          | false => rfl
          | true =>
            show ((ec env m2).bind _).bind _ = (ec env m2).bind _
            cases ec env m2 with
            | ok d3 m3 =>
              show (ofO ((cmpM m3 o' d2 d3).map D.bl) m3).bind _ = ofO (cmpM m3 o' d2 d3) m3
              cases cmpM m3 o' d2 d3 <;> rfl
            | exc x m3 => rfl
            | stuck => rfl
      | exc x m2 => rfl
      | stuck => rfl
    | exc x m1 => rfl
    | stuck => rfl
  dsimp only at p
  rw [e] at p
  refine sub A p fun v1 H1 d1 m1 loc1 _ A1 k1 r1 p1 => sub A1 p1 fun v2 H2 d2 m2 loc2 _ A2 k2 r2 p2 => ?_
  cases q : cmpM m2 o d1 d2 with
  | none =>
    rw [q] at p2
    exact (show False from p2).elim
  | some k =>
    rw [q] at p2
    refine hg (fun _ _ _ => False) H2 m2 loc2 v1 v2 d1 d2 (.bl k) _ A2.1 (r1.mono k2) r2 (by dsimp only; rw [q]; rfl) (fun v H3 loc3 s3 k3 r3 => ?_)
    have ev : v = .bl k := by cases r3; rfl
    refine ⟨k, ev, ?_⟩
    have A3 : At Γ σ H3 env m2 loc3 := A2.go s3 k3
    cases k with
    | false =>
      rw [if_neg Bool.false_ne_true]
      exact ⟨false, rfl, p2 _ _ _ s3 k3 rfl⟩
    | true =>
      rw [if_pos rfl]
      refine sub A3 (Po.later (show Po Γ (fun c d H => W c d σ H) H2 m2 loc2 rlB ((ec env m2).bind fun z m => ofO (cmpM m o' d2 z) m) Q from p2) k3) fun v4 H4 d4 m4 loc4 _ A4 k4 r4 p4 => ?_
      obtain ⟨k5, e5, p5⟩ := p4.ofO
      refine hg' (fun _ _ _ => False) H4 m4 loc4 v2 v4 d2 d4 (.bl k5) _ A4.1 ((r2.mono k3).mono k4) r4 (by dsimp only; rw [e5]; rfl) (fun v H5 loc5 s5 k5' r5 => ?_)
      have ev : v = .bl k5 := by cases r5; rfl
      exact ⟨k5, ev, p5 _ _ _ s5 k5' rfl⟩
/-- and, or as tests -/
def SW (Γ : Gam) (X : Cx) (e : Expr) (ev : Env → MH → R Bool) : Prop := ∀ W : WX, L2N.Takes X W → PW X e (tT Γ W ev)
theorem SW.st {e : Expr} {ev : Env → MH → R Bool} (h : SW Γ X e ev) : ST Γ X e ev := fun W tk => (h W tk).pt
theorem wkW {X : Cx} {e : Expr} {t t' : TT} (h : PW X e t) (w : ∀ σ H Q, t' σ H Q → t σ H Q) : PW X e t' := ⟨fun wh pins s σ H Q I hw => h.run wh pins s σ H Q I (w σ H Q hw)⟩
theorem sw_one {k : Bool} {op : BoolOp} {e0 : E} (ha : ST Γ X a (fun env m => test (eval G C e0 env m))) : SW Γ X (.BoolOp op [a] pos) (fun env m => test (evalB G C k [e0] env m)) := fun W tk => by
  cases op with
  | And => exact pw_and1 (ha W tk)
  | Or => exact pw_or1 (ha W tk)
theorem test_cons {k : Bool} {e0 e1 : E} {ms : List E} {env : Env} {m : MH} (hne : ∀ d m', eval G C e0 env m = .ok d m' → (∃ b, d = .bl b) ∨ test (evalB G C k (e0 :: e1 :: ms) env m) = .stuck) :
    test (evalB G C k (e0 :: e1 :: ms) env m) = .stuck ∨ test (evalB G C k (e0 :: e1 :: ms) env m) = (test (eval G C e0 env m)).bind fun b m => if b = k then test (evalB G C k (e1 :: ms) env m) else .ok b m := by
  rw [evalB_cons]
  unfold test
  cases q : eval G C e0 env m with
  | ok d m1 =>
    cases d with
    | bl b =>
      refine .inr ?_
      show (if b = k then evalB G C k (e1 :: ms) env m1 else .ok (.bl b) m1).bind _ = (if b = k then _ else _)
      by_cases e : b = k
      · rw [if_pos e, if_pos e]
      · rw [if_neg e, if_neg e]
        rfl
    | _ => exact .inl rfl
  | exc x m1 => exact .inr rfl
  | stuck => exact .inl rfl
theorem sw_and {e0 e1 : E} {ms : List E} (ha : ST Γ X a (fun env m => test (eval G C e0 env m))) (hb : SW Γ X (.BoolOp .And (b :: es) pos) (fun env m => test (evalB G C true (e1 :: ms) env m))) : SW Γ X (.BoolOp .And (a :: b :: es) pos) (fun env m => test (evalB G C true (e0 :: e1 :: ms) env m)) := fun W tk =>
  wkW (pw_and (ha W tk) (hb W tk)) fun σ H Q ⟨env, m, loc, A, p⟩ => by
    rcases test_cons (G := G) (C := C) (k := true) (e0 := e0) (e1 := e1) (ms := ms) (env := env) (m := m) (fun d m' e => by
      cases d <;> first | exact .inl ⟨_, rfl⟩ | (refine .inr ?_; rw [evalB_cons, e]; rfl)) with z | z
    · dsimp only at p
      rw [z] at p
      exact (show False from p).elim
    · dsimp only at p
      rw [z] at p
      refine sub A p fun k H1 d1 m1 loc1 _ A1 k1 r1 p1 => ?_
      have e : k = d1 := r1
      subst e
      cases k with
      | true =>
        rw [if_pos rfl]
        exact ⟨env, m1, loc1, A1, p1⟩
      | false =>
        rw [if_neg Bool.false_ne_true]
        exact (show Po Γ (fun c d H => W c d σ H) H1 m1 loc1 rlB (.ok false m1) Q from p1).ret A1.1 rfl
theorem sw_or {e0 e1 : E} {ms : List E} (ha : ST Γ X a (fun env m => test (eval G C e0 env m))) (hb : SW Γ X (.BoolOp .Or (b :: es) pos) (fun env m => test (evalB G C false (e1 :: ms) env m))) : SW Γ X (.BoolOp .Or (a :: b :: es) pos) (fun env m => test (evalB G C false (e0 :: e1 :: ms) env m)) := fun W tk =>
  wkW (pw_or (ha W tk) (hb W tk)) fun σ H Q ⟨env, m, loc, A, p⟩ => by
    rcases test_cons (G := G) (C := C) (k := false) (e0 := e0) (e1 := e1) (ms := ms) (env := env) (m := m) (fun d m' e => by
      cases d <;> first | exact .inl ⟨_, rfl⟩ | (refine .inr ?_; rw [evalB_cons, e]; rfl)) with z | z
    · dsimp only at p
      rw [z] at p
      exact (show False from p).elim
    · dsimp only at p
      rw [z] at p
      refine sub A p fun k H1 d1 m1 loc1 _ A1 k1 r1 p1 => ?_
      have e : k = d1 := r1
      subst e
      cases k with
      | true =>
        rw [if_pos rfl]
        exact (show Po Γ (fun c d H => W c d σ H) H1 m1 loc1 rlB (.ok true m1) Q from p1).ret A1.1 rfl
      | false =>
        rw [if_neg Bool.false_ne_true]
        exact ⟨env, m1, loc1, A1, p1⟩
end
end Mi
/-! Mini: subscripts, slices, displays of dicts, methods, built-ins, calls. -/
namespace Mi
open PySem PySem.Spec PyProof.Rows L2
variable [Glb]
section
variable {X : Cx} {Γ : Gam} {C : Call} {G : Nat → Option D} {a b c e o : Expr} {es : List Expr} {ea eb ec ev eo : Env → MH → R D} {evs : Env → MH → R (List D)} {pos p apos : Pos} {x : Str}
/-! ### subscripts -/
theorem ix_dict (hu : X.A.units + 1 < cLine) : IxR X (fun x y H Q => ∃ a v, x = .ref a ∧ DGet H a y (some v) ∧ Q v H) := by
  intro value slice pins s σ H x y v u Q I rx ry h hs
  obtain ⟨a, w, rfl, g, q⟩ := h
  cases rx
  have hT := dict_typeIs I g
  unfold subscriptTail
  refine wpAny_bind ?_
  rw [getitemInPython_of_ne hT.not_modules]
  refine wpAny_bind (wpAny_specialOf hT PySem.F.slot_dict_getitem.lookup ?_)
  have fin : wpAny (model X.prog X.w) X.A (subscripted slice false (.ref a) u) (fun r s₃ => wpAny (model X.prog X.w) X.A (letTemporaryGo value (.ref a) r >>= fun _ => pure r) (EP X pins σ Q) X.xe s₃) X.xe s := by
    rw [hs]
    exact wpAny_operating (d_getItem hu I g ry fun w' s' I' rw' => wpAny_bind (wpAny_letTemporaryGo (wpAny_pure ⟨_, H, I', rw', q⟩)))
  first
    | exact wpAny_pure (wpAny_bind fin)
    | exact wpAny_bind (wpAny_pure (wpAny_bind fin))
    | exact wpAny_bind fin
theorem atD_rep {K : PySem.W.Frag} {H : Hp} {L : Addr → Prop} {loc : Loc} {vs : List V} {ds : List D} (r : Reps K H L loc vs ds) {i : Int} {d : D} (h : atD ds i = some d) : ∃ v, atI vs i = some v ∧ Rep K H L loc v d := by
  unfold atD atI at *
  rw [r.length]
  cases q : ixN ds.length i with
  | none =>
    rw [q] at h
    cases h
  | some j =>
    rw [q] at h
    exact r.get (show ds[j]? = some d from h)
theorem ixS_of {xs : List D} {k d : D} (h : ixS xs k = some d) : ∃ i, k = .int i ∧ atD xs i = some d := by
  cases k <;> first | exact ⟨_, rfl, h⟩ | cases h
theorem se_ix (hK : X.K = Γ.K) (hu : X.A.units + 1 < cLine) (hp : plainE b = true) (ha : SE Γ X a ea) (hb : SE Γ X b eb) : SE Γ X (.Subscript a b pos) (fun env m => (ea env m).bind fun x m => (eb env m).bind fun y m => ofO (ixD m x y) m) := fun W tk =>
  wkE (pe_ix (ix_list.or (ix_tup.or (ix_dict hu))) (ha W tk) (hb W tk) (fun o i => noslice hp o i)) fun σ H Q ⟨env, m, loc, A, p⟩ => sub A p fun v1 H1 d1 m1 loc1 _ A1 k1 r1 p1 => sub A1 p1 fun v2 H2 d2 m2 loc2 _ A2 k2 r2 p2 => by
    obtain ⟨d, e, p3⟩ := p2.ofO
    have r1 := r1.mono k2
    have tups : ∀ {a : Addr} {vs : List V} {xs : List D}, v1 = .ref a → SqT X.K H2 a vs → Reps Γ.K H2 (Live m2 loc2) loc2 vs xs → ixS xs d2 = some d → rIxT X.K v1 v2 H2 Q := fun {a vs xs} e1 e2 e3 e4 => by
      obtain ⟨i, e5, e6⟩ := ixS_of e4
      subst e5
      cases r2
      obtain ⟨v, h1, h2⟩ := atD_rep e3 e6
      exact ⟨a, vs, i, v, e1, rfl, e2, h1, p3.ret A2.1 h2⟩
    have lsts : ∀ {a : Addr} {vs : List V} {xs : List D}, v1 = .ref a → SqL X.K H2 a vs → Reps Γ.K H2 (Live m2 loc2) loc2 vs xs → ixS xs d2 = some d → rIxL X.K v1 v2 H2 Q := fun {a vs xs} e1 e2 e3 e4 => by
      obtain ⟨i, e5, e6⟩ := ixS_of e4
      subst e5
      cases r2
      obtain ⟨v, h1, h2⟩ := atD_rep e3 e6
      exact ⟨a, vs, i, v, e1, rfl, e2, h1, p3.ret A2.1 h2⟩
    have dics : ∀ {a : Addr} {ks : List (Key × V)} {kvs : List (Key × D)}, v1 = .ref a → H2 a = some (.dK ks) → RepK Γ.K H2 (Live m2 loc2) loc2 ks kvs → ixK kvs d2 = some d → ∃ a v, v1 = .ref a ∧ DGet H2 a v2 (some v) ∧ Q v H2 := fun {a ks kvs} e1 e2 e3 e4 => by
      obtain ⟨k, e5, e6⟩ := Option.bind_eq_some_iff.mp e4
      obtain ⟨v, h1, h2⟩ := (lookK_rep k e3).1 d e6
      refine ⟨a, v, e1, ?_, p3.ret A2.1 h2⟩
      rw [keyOf_rep r2 e5, ← h1]
      exact DGet.k e2
    cases d1 with
    | tup xs =>
      cases r1 with
      | @tup a vs _ h z q => exact .inr (.inl (tups rfl (hK ▸ tupS h) q e))
    | lst xs =>
      cases r1 with
      | @lst a vs _ h nl z q => exact .inl (lsts rfl (SqL.of h) q e)
    | scr ns =>
      cases r1 with
      | @scr a ns h z => exact .inl (lsts rfl (hK ▸ scrS h) (Reps.ints ns) e)
    | dic kvs =>
      cases r1 with
      | @dic a ks _ h nl q => exact .inr (.inr (dics rfl h q e))
    | ref n =>
      have e' : (match m2[n]? with
        | some (.lst xs) => ixS xs d2
        | some (.dic kvs) => ixK kvs d2
        | _ => none) = some d := e
      cases q : m2[n]? with
      | none =>
        rw [q] at e'
        cases e'
      | some c =>
        rw [q] at e'
        cases c with
        | lst xs =>
          obtain ⟨a, vs, e1, _, h1, _, h2⟩ := lst_at A2.1 r1 q
          exact .inl (lsts e1 (SqL.of h1) h2 e')
        | dic kvs =>
          obtain ⟨a, ks, e1, _, h1, h2⟩ := dic_at A2.1 r1 q
          exact .inr (.inr (dics e1 h1 h2 e'))
        | _ => cases e'
    | _ => cases e
/-! ### slices -/
def SP (Γ : Gam) (X : Cx) (e : Option Expr) (ev : Env → MH → R (Option Int)) : Prop := ∀ W : WX, L2N.Takes X W → PO X e (tP Γ W ev)
theorem sp_none : SP Γ X none (evalP G C none) := fun W tk => wkP po_none fun σ H Q ⟨env, m, loc, A, p⟩ => (show Po Γ (fun c d H => W c d σ H) H m loc rlI (.ok none m) Q from p).ret A.1 rfl
theorem sp_some (ha : SE Γ X a ea) : SP Γ X (some a) (fun env m => (ea env m).bind fun x m => match x with
    | .int i => .ok (some i) m
    | _ => .stuck) := fun W tk => wkP (po_some (ha W tk)) fun σ H Q ⟨env, m, loc, A, p⟩ => sub A p fun v1 H1 d1 m1 loc1 _ A1 k1 r1 p1 => by
  cases d1 with
  | int i =>
    cases r1
    exact ⟨i, rfl, p1.ret A1.1 rfl⟩
  | _ => exact (show False from p1).elim
theorem cut_rep {K : PySem.W.Frag} {H : Hp} {L : Addr → Prop} {loc : Loc} {vs : List V} {ds : List D} (r : Reps K H L loc vs ds) (lo hi : Option Int) : Reps K H L loc (cutV vs lo hi) (cutD ds lo hi) := by
  unfold cutV cutD
  rw [r.length]
  exact (r.drop _).take _
theorem cutV_whole {vs : List V} {lo hi : Option Int} (h : HT.sIx vs.length 0 lo = 0 ∧ HT.sIx vs.length vs.length hi = vs.length) : cutV vs lo hi = vs := by
  unfold cutV
  rw [h.1, h.2, List.drop_zero, Nat.sub_zero, List.take_length]
theorem se_sl {lo hi : Option Expr} {el eh : Env → MH → R (Option Int)} {p2 : Pos} (hK : X.K = Γ.K) (ha : SE Γ X a ea) (hl : SP Γ X lo el) (hh : SP Γ X hi eh) :
    SE Γ X (.Subscript a (.Slice lo hi none p2) pos) (fun env m => (ea env m).bind fun x m => (el env m).bind fun l m => (eh env m).bind fun h m => ofO (slD m x l h) m) := fun W tk =>
  wkE (pe_slice ((sl_list.or sl_tupA).or sl_str) (ha W tk) (hl W tk) (hh W tk)) fun σ H Q ⟨env, m, loc, A, p⟩ => sub A p fun v1 H1 d1 m1 loc1 _ A1 k1 r1 p1 => sub A1 p1 fun l H2 l' m2 loc2 _ A2 k2 r2 p2 => sub A2 p2 fun h H3 h' m3 loc3 _ A3 k3 r3 p3 => by
    have e1 : l = l' := r2
    have e2 : h = h' := r3
    subst e1 e2
    obtain ⟨d, e, p4⟩ := p3.ofO
    have r1 := (r1.mono k2).mono k3
    have lsts : (asL m3 d1).map (fun xs => D.lst (cutD xs l h)) = some d → rSlL X.K v1 l h H3 Q := fun e => by
      obtain ⟨xs, e5, e6⟩ := Option.map_eq_some_iff.mp e
      subst e6
      obtain ⟨a, vs, e7, h1, z, h2⟩ := asL_rep A3.1 r1 e5
      exact ⟨a, vs, e7, SqL.of h1, p4.lst A3.1 (cut_rep h2 l h) (Nat.le_trans (cutV_length _ _ _) z)⟩
    cases d1 with
    | tup xs =>
      cases r1 with
      | @tup a vs _ h1 z q =>
        have e' : some (D.tup (cutD xs l h)) = some d := e
        cases e'
        refine .inl (.inr ⟨a, vs, rfl, hK ▸ tupS h1, fun w => ?_, fun _ => p4.tup A3.1 (cut_rep q l h) (Nat.le_trans (cutV_length _ _ _) z)⟩)
        refine p4.ret A3.1 (Rep.tup h1 z ?_)
        have q2 := cut_rep q l h
        rw [cutV_whole w] at q2
        exact q2
    | str z =>
      cases r1
      have e' : (if z.length ≤ LIM then some (D.str (L2.cutS z l h)) else none) = some d := e
      split at e'
      · rename_i hz
        cases e'
        exact .inr ⟨z, rfl, lim_le hz, p4.ret A3.1 (.str _)⟩
      · cases e'
    | non => exact .inl (.inl (lsts e))
    | bl _ => exact .inl (.inl (lsts e))
    | int _ => exact .inl (.inl (lsts e))
    | lst _ => exact .inl (.inl (lsts e))
    | dic _ => exact .inl (.inl (lsts e))
    | scr _ => exact .inl (.inl (lsts e))
    | ref _ => exact .inl (.inl (lsts e))
    | cls _ => exact .inl (.inl (lsts e))
/-! ### freeing a cell -/
theorem se_frz (ha : SE Γ X a ea) : SE Γ X a (fun env m => (ea env m).bind fun x m => match x with
    | .ref n => thaw n m
    | _ => .stuck) := fun W tk => wkE (ha W tk) fun σ H Q ⟨env, m, loc, A, p⟩ => sub A p fun v1 H1 d1 m1 loc1 _ A1 k1 r1 p1 => by
  cases d1 with
  | ref n =>
    have p2 : Po Γ (fun c d H => W c d σ H) H1 m1 loc1 (rlD Γ) (match m1[n]? with
      | some (.lst xs) => R.ok (.lst xs) (m1.set n .dead)
      | some (.dic kvs) => R.ok (.dic kvs) (m1.set n .dead)
      | _ => R.stuck) Q := p1
    cases q : m1[n]? with
    | none =>
      rw [q] at p2
      exact (show False from p2).elim
    | some c =>
      rw [q] at p2
      cases c with
      | lst xs =>
        obtain ⟨a, vs, e1, hl, h1, z, h2⟩ := lst_at A1.1 r1 q
        have hd : Cell.lst xs ≠ .dead := fun z => nomatch z
        subst e1
        exact p2 _ _ _ (A1.1.die q hd) (kp_die q hd) (Rep.lst h1 (not_live_dead A1.1 hl) z (h2.mono (kp_die q hd)))
      | dic xs =>
        obtain ⟨a, vs, e1, hl, h1, h2⟩ := dic_at A1.1 r1 q
        have hd : Cell.dic xs ≠ .dead := fun z => nomatch z
        subst e1
        exact p2 _ _ _ (A1.1.die q hd) (kp_die q hd) (Rep.dic h1 (not_live_dead A1.1 hl) (h2.mono (kp_die q hd)))
      | _ => exact (show False from p2).elim
  | _ => exact (show False from p1).elim
/-! ### dicts -/
theorem putK_rep {K : PySem.W.Frag} {H : Hp} {L : Addr → Prop} {loc : Loc} {k : Key} {v : V} {d : D} (rv : Rep K H L loc v d) {kvs : List (Key × V)} {ds : List (Key × D)} (r : RepK K H L loc kvs ds) : RepK K H L loc (L2.putK kvs k v) (Mi.putK ds k d) := by
  have any_eq : (kvs.any fun kv => decide (kv.1 = k)) = (lookK k ds).isSome := by rw [valV_any, lookK_some k r]
  unfold L2.putK Mi.putK
  rw [any_eq]
  by_cases h : (lookK k ds).isSome = true
  · rw [if_pos h, if_pos h]
    clear any_eq h
    induction kvs generalizing ds with
    | nil =>
      cases r
      exact .nil
    | cons p kvs ih =>
      cases r with
      | @cons j w _ x ds' r0 t =>
        simp only [List.map_cons]
        by_cases e : j = k
        · rw [if_pos e, if_pos e]
          exact .cons rv (ih t)
        · rw [if_neg e, if_neg e]
          exact .cons r0 (ih t)
  · rw [if_neg h, if_neg h]
    clear any_eq h
    induction kvs generalizing ds with
    | nil =>
      cases r
      exact .cons rv .nil
    | cons p kvs ih =>
      cases r with
      | @cons j w _ x ds' r0 t => exact .cons r0 (ih t)
theorem mkDic_rep {K : PySem.W.Frag} {H : Hp} {L : Addr → Prop} {loc : Loc} : ∀ {ks : List Key} {vs : List V} {ds : List D}, Reps K H L loc vs ds → ks.length = vs.length → ∀ {kvs : List (Key × V)} {acc : List (Key × D)}, RepK K H L loc kvs acc →
    RepK K H L loc (mergeK kvs (ks.zip vs)) (mkDic ks ds acc)
  | [], _, _, .nil, _, _, _, r => r
  | [], _, _, .cons _ _, h, _, _, _ => by cases h
  | k :: ks, _, _, .nil, h, _, _, _ => by cases h
  | k :: ks, _, _, .cons r0 t, h, kvs, acc, r => by
    show RepK K H L loc (mergeK (L2.putK kvs k _) (ks.zip _)) (mkDic ks _ (Mi.putK acc k _))
    exact mkDic_rep t (by simpa using h) (putK_rep r0 r)
def keyE : Key → Expr → Bool
  | .inl i, .Constant (.int j) _ _ => decide (i = j)
  | .inr s, .Constant (.str t) _ _ => decide (s = t)
  | _, _ => false
theorem pe_key {k : Key} {e : Expr} (h : keyE k e = true) : PE X e (tC (kV k)) := by
  cases k with
  | inl i =>
    cases e with
    | Constant c j pos =>
      cases c with
      | int i2 =>
        have e1 : i = i2 := of_decide_eq_true h
        subst e1
        exact pe_int
      | _ => cases h
    | _ => cases h
  | inr s =>
    cases e with
    | Constant c j pos =>
      cases c with
      | str i2 =>
        have e1 : s = i2 := of_decide_eq_true h
        subst e1
        exact pe_str
      | _ => cases h
    | _ => cases h
def keysE : List Key → List (Option Expr) → Bool
  | [], [] => true
  | k :: ks, some e :: es => keyE k e && keysE ks es
  | _, _ => false
/-- the values of a display, each by its own run -/
inductive SEs (Γ : Gam) (X : Cx) (G : Nat → Option D) (C : Call) : List Expr → List E → Prop
  | nil : SEs Γ X G C [] []
  | cons {e : Expr} {es : List Expr} {d : E} {ds : List E} : plainE e = true → SE Γ X e (eval G C d) → SEs Γ X G C es ds → SEs Γ X G C (e :: es) (d :: ds)
theorem SEs.sa : ∀ {es : List Expr} {ds : List E}, SEs Γ X G C es ds → SA Γ X es (evals G C ds)
  | _, _, .nil => sa_nil
  | _, _, .cons hp h t => sa_cons hp h t.sa
theorem SEs.plain : ∀ {es : List Expr} {ds : List E}, SEs Γ X G C es ds → ∀ e ∈ es, plainE e = true
  | _, _, .nil => fun e h => by cases h
  | _, _, .cons hp h t => fun e m => by
    rcases List.mem_cons.mp m with q | q
    · rw [q]
      exact hp
    · exact t.plain e q
theorem SEs.length : ∀ {es : List Expr} {ds : List E}, SEs Γ X G C es ds → es.length = ds.length
  | _, _, .nil => rfl
  | _, _, .cons hp h t => congrArg (· + 1) t.length
def trs (Γ : Gam) (W : WX) (G : Nat → Option D) (C : Call) : List Key → List E → List (TE × TE)
  | k :: ks, e :: es => (tC (kV k), tE Γ W (eval G C e)) :: trs Γ W G C ks es
  | _, _ => []
theorem pps_of {W : WX} (tk : L2N.Takes X W) : ∀ {ks : List Key} {kes : List (Option Expr)} {es : List Expr} {ds : List E}, keysE ks kes = true → SEs Γ X G C es ds → ks.length = es.length → PPs X pos kes es (trs Γ W G C ks ds)
  | [], [], _, _, _, .nil, _ => pps_nil
  | [], [], _, _, _, .cons _ _ _, h => by cases h
  | [], _ :: _, _, _, h, _, _ => by cases h
  | _ :: _, [], _, _, h, _, _ => by cases h
  | _ :: _, none :: _, _, _, h, _, _ => by cases h
  | _ :: _, some _ :: _, _, _, _, .nil, h => by cases h
  | k :: ks, some e :: kes, _, _, h, .cons hp hs t, hl => by
    have h' : keyE k e = true ∧ keysE ks kes = true := Bool.and_eq_true_iff.mp h
    exact pps_cons (pe_key h'.1) (hs W tk) (pps_of tk h'.2 t (by simpa using hl))
theorem pairs_run {W : WX} {σ : L2.St} {env : Env} : ∀ {ks : List Key} {es : List E} {H : Hp} {m : MH} {loc : Loc} {Q : List (V × V) → Hp → Prop} {Qd : List V → Hp → Prop}, ks.length = es.length → At Γ σ H env m loc →
    Po Γ (fun c d H => W c d σ H) H m loc (rlA Γ) (evals G C es env m) Qd → (∀ vs H', vs.length = ks.length → Qd vs H' → Q ((ks.zip vs).map fun kv => (kV kv.1, kv.2)) H') → tPairs (trs Γ W G C ks es) σ H Q
  | [], [], H, m, loc, Q, Qd, _, A, p, h => h [] H rfl ((show Po Γ (fun c d H => W c d σ H) H m loc (rlA Γ) (.ok [] m) Qd from p).ret A.1 .nil)
  | [], _ :: _, _, _, _, _, _, hl, _, _, _ => by cases hl
  | _ :: _, [], _, _, _, _, _, hl, _, _, _ => by cases hl
  | k :: ks, e :: es, H, m, loc, Q, Qd, hl, A, p, h => by
    show tE Γ W (eval G C e) σ H fun y H2 => tPairs (trs Γ W G C ks es) σ H2 fun ps H3 => Q ((kV k, y) :: ps) H3
    refine sub A (show Po Γ (fun c d H => W c d σ H) H m loc (rlA Γ) ((eval G C e env m).bind fun d m => (evals G C es env m).bind fun ds m => .ok (d :: ds) m) Qd from p) fun v1 H1 d1 m1 loc1 _ A1 k1 r1 p1 => ?_
    refine pairs_run (Qd := fun vs H' => Qd (v1 :: vs) H') (by simpa using hl) A1 ?_ fun vs H' hv q => h (v1 :: vs) H' (by simp [hv]) q
    cases e2 : evals G C es env m1 with
    | ok ds m2 =>
      rw [e2] at p1
      have p2 : Po Γ (fun c d H => W c d σ H) H1 m1 loc1 (rlA Γ) (.ok (d1 :: ds) m2) Qd := p1
      exact fun vs H' l' s' k' r' => p2 _ H' l' s' k' (.cons (r1.mono k') r')
    | exc x m2 =>
      rw [e2] at p1
      exact p1
    | stuck =>
      rw [e2] at p1
      exact p1
theorem keysE_some : ∀ {ks : List Key} {es : List (Option Expr)}, keysE ks es = true → es.all (·.isSome) = true ∧ es.length = ks.length
  | [], [], _ => ⟨rfl, rfl⟩
  | [], _ :: _, h => by cases h
  | _ :: _, [], h => by cases h
  | _ :: _, none :: _, h => by cases h
  | k :: ks, some e :: es, h => by
    obtain ⟨h1, h2⟩ := keysE_some (Bool.and_eq_true_iff.mp (show (keyE k e && keysE ks es) = true from h)).2
    exact ⟨by rw [List.all_cons, h1]; rfl, by simp [h2]⟩
theorem zip_len {α β : Type} : ∀ {ks : List α} {vs : List β}, vs.length = ks.length → (ks.zip vs).length = ks.length := fun {ks vs} h => by
  rw [List.length_zip, h, Nat.min_self]
/-- {k: v, ..}: the dict is tracked from its end on -/
def tDisp2 (trs : List (TE × TE)) : TE := fun σ H Q => tPairs trs σ H fun ps H2 => ∃ kvs : List (Key × V), ps = kvs.map (fun kv => (kV kv.1, kv.2)) ∧ kvs.length ≤ 15 ∧ ∀ p, H2 p = none → Q (.ref p) (upd H2 p (.dK (mergeK [] kvs)))
theorem pe_disp2 {keys : List (Option Expr)} {values : List Expr} {trs : List (TE × TE)} (h : PPs X pos keys values trs) (hall : keys.all (·.isSome) = true) (hl : keys.length = values.length) (h0 : keys ≠ [])
    (h15 : keys.length ≤ 15) : PE X (.Dict keys values pos) (tDisp2 trs) := by
  refine ⟨fun pins s σ H Q I q => ?_⟩
  have hn := I.hok.fresh (Nat.le_refl s.heap.objs.size)
  have hg : (s.heap.push { cls := .type "dict", data := .dict #[] }).get? s.heap.objs.size = some { cls := .type "dict", data := .dict #[] } := Heap.get?_push_size _ rfl
  have I1 : Inv X pins σ H { s with heap := s.heap.push { cls := .type "dict", data := .dict #[] } } := I.kept (t' := s.toks) fun b o e => Heap.get?_push_of_some _ e
  have I2 : Inv X (pins ++ [(s.heap.objs.size, { cls := .type "dict", data := .dict #[] })]) σ H { s with heap := s.heap.push { cls := .type "dict", data := .dict #[] } } := I1.pins_of fun p hp => by
    rcases List.mem_append.mp hp with hp | hp
    · exact I1.pin p (List.mem_append_right _ hp)
    · have e : p = (s.heap.objs.size, { cls := .type "dict", data := .dict #[] }) := by simpa using hp
      rw [e]
      exact ⟨hg, hn, Nat.ne_of_gt I.lt, I.nofs (Nat.le_refl _), fun v z => by
        have z' : Data.dict #[] = Data.cell v := z
        cases z'⟩
  refine wpAny_Dict_walk (knd := mixKind X.prog X.w) hall hl h0 h15 (thn (h.run _ _ σ _ _ I2 q) fun ws s2 ⟨ps, H2, I3, rel, kvs, ep, lk, q2⟩ => ?_)
  subst ep
  obtain ⟨rs, c, rk⟩ := carries_of (P := X.prog) (w := X.w) rel
  obtain ⟨p1, p2, p3, p4, p5⟩ := I3.pin (s.heap.objs.size, { cls := .type "dict", data := .dict #[] }) (List.mem_append_right _ (List.mem_append_right _ (List.mem_singleton.mpr rfl)))
  have p1 : s2.heap.get? s.heap.objs.size = some { cls := .type "dict", data := .dict #[] } := p1
  have p2 : H2 s.heap.objs.size = none := p2
  have dd : s2.heap.DictOf (mixKind X.prog X.w) s.heap.objs.size [] := (Heap.DictOf.new (knd := mixKind X.prog X.w) s.heap).at fun o e => by
    rw [hg] at e
    rw [← e]
    exact p1
  have I4 : Inv X pins σ H2 s2 := I3.unpinned
  refine ⟨rs, c, dd, fun h' dd' hs => ⟨.ref s.heap.objs.size, upd H2 s.heap.objs.size (.dK (mergeK [] kvs)), ?_, rfl, q2 _ p2⟩⟩
  have hz : (mergeK [] kvs).length ≤ sizeLine := by
    have h1 := length_mergeK kvs []
    rw [List.length_nil] at h1
    rw [sizeLine_eq]; omega
  have hsys : (s.heap.objs.size == sysModules) = false := beq_eq_false_iff_ne.mpr (Ne.symm (Nat.ne_of_lt I.big))
  have nup : ∀ {b : Addr} {u : HO}, H2 b = some u → (upd H2 s.heap.objs.size (.dK (mergeK [] kvs))) b = some u := fun {b u} e => by
    rw [upd_ne (ne_of_none e p2)]
    exact e
  have sb : ∀ b o, b ≠ s.heap.objs.size → s2.heap.get? b = some o → h'.get? b = some o := fun b o hb e => (hs.2 b hb).trans e
  refine I4.step (g' := s2.gens) (d' := s2.drawn) (ch := [s.heap.objs.size]) (fun b hb => ?_) (fun b o _ _ hc e _ => sb b o (fun z => hc (by simp [z])) e) (fun b o _ _ hc e _ => ⟨o.slots, sb b o (fun z => hc (by simp [z])) e⟩)
    (fun b o hc e n => by rw [upd_ne (fun z => hc (by simp [z]))]; exact n) (fun b o hc e => ⟨o, sb b o (fun z => hc (by simp [z])) e⟩) (fun b xs e => nup e) (fun b o u e => nup e) (fun b ps e => ⟨#[], by rw [nup e]; simp⟩) (fun m hm => ?_) (fun b u e => ?_) I4.bare
  · have e : b = s.heap.objs.size := by simpa using hb
    subst e
    refine ⟨.inr I.sz, p3, fun x c e z => ?_, fun p hp z => ?_⟩
    · have h1 := I.ok
      obtain ⟨v, o, ho, hd⟩ := I4.cell x c e
      rw [z, p1] at ho
      cases ho
      cases hd
    · obtain ⟨e, _⟩ := I.pin p hp
      rw [z] at e
      exact absurd (Heap.lt_size e) (Nat.lt_irrefl _)
  · obtain ⟨o, es, ep, ho, r⟩ := hm
    exact ⟨o, es, ep, sb _ o (Ne.symm p3) ho, r⟩
  · by_cases hb : b = s.heap.objs.size
    · subst hb
      rw [upd_same] at e
      cases e
      exact dk_new hz hsys (rk.merge .nil) dd'
    · rw [upd_ne hb] at e
      refine (I4.hok b u e).stay (fun c v hc q => sb c v (fun z => ?_) q) (fun c q => nup q) fun c xs q => nup q
      rcases hc with rfl | hc
      · exact hb z
      · rw [z, p2] at hc
        cases hc
theorem disp_run {W : WX} {σ : L2.St} {env : Env} {ks : List Key} {ds : List E} {H : Hp} {m : MH} {loc : Loc} {Q : VK} {r : List D → MH → R D} (hl : ks.length = ds.length) (h15 : ks.length ≤ 15) (A : At Γ σ H env m loc)
    (p : Po Γ (fun c d H => W c d σ H) H m loc (rlD Γ) ((evals G C ds env m).bind r) Q)
    (fin : ∀ (H1 : Hp) (m1 : MH) (loc1 : Loc) (vs : List V) (xs : List D), Sim Γ.K H1 m1 loc1 → RepK Γ.K H1 (Live m1 loc1) loc1 (mergeK [] (ks.zip vs)) (mkDic ks xs []) → Po Γ (fun c d H => W c d σ H) H1 m1 loc1 (rlD Γ) (r xs m1) Q →
      ∀ q, H1 q = none → Q (.ref q) (upd H1 q (.dK (mergeK [] (ks.zip vs))))) : tDisp2 (trs Γ W G C ks ds) σ H Q :=
  pairs_run hl A (Po.step (Rl := rlA Γ) p) fun vs H' hv ⟨xs, m1, loc1, e1, s1, k1, r1, p1⟩ => ⟨ks.zip vs, rfl, by rw [zip_len hv]; exact h15, fin H' m1 loc1 vs xs s1 (mkDic_rep r1 hv.symm .nil) p1⟩
theorem se_dct {ks : List Key} {kes : List (Option Expr)} {es : List Expr} {ds : List E} (hk : keysE ks kes = true) (hs : SEs Γ X G C es ds) (hl : ks.length = es.length) (h0 : ks ≠ []) (h15 : ks.length ≤ 15) : SE Γ X (.Dict kes es pos) (eval G C (.dct ks ds)) := fun W tk => by
  obtain ⟨k1, k2⟩ := keysE_some hk
  refine wkE (pe_disp2 (pps_of tk hk hs hl) k1 (by rw [k2, hl]) (fun z => h0 (by
    rw [z] at k2
    exact List.eq_nil_of_length_eq_zero k2.symm)) (by rw [k2]; exact h15)) fun σ H Q ⟨env, m, loc, A, p⟩ => ?_
  exact disp_run (r := fun vs m => R.ok (.dic (mkDic ks vs [])) m) (by rw [hl, hs.length]) h15 A (show Po Γ (fun c d H => W c d σ H) H m loc (rlD Γ) ((evals G C ds env m).bind fun vs m => R.ok (.dic (mkDic ks vs [])) m) Q from p) fun H1 m1 loc1 vs xs s1 r1 p1 q hq => p1 _ _ loc1 (s1.new hq) (kp_new hq s1) (Rep.dic upd_same (s1.no hq) (r1.mono (kp_new hq s1)))
theorem se_newd {ks : List Key} {kes : List (Option Expr)} {es : List Expr} {ds : List E} (hk : keysE ks kes = true) (hs : SEs Γ X G C es ds) (hl : ks.length = es.length) (h0 : ks ≠ []) (h15 : ks.length ≤ 15) : SE Γ X (.Dict kes es pos) (eval G C (.newd ks ds)) := fun W tk => by
  obtain ⟨k1, k2⟩ := keysE_some hk
  refine wkE (pe_disp2 (pps_of tk hk hs hl) k1 (by rw [k2, hl]) (fun z => h0 (by
    rw [z] at k2
    exact List.eq_nil_of_length_eq_zero k2.symm)) (by rw [k2]; exact h15)) fun σ H Q ⟨env, m, loc, A, p⟩ => ?_
  refine disp_run (r := fun vs m => R.ok (.ref m.length) (m ++ [.dic (mkDic ks vs [])])) (by rw [hl, hs.length]) h15 A (show Po Γ (fun c d H => W c d σ H) H m loc (rlD Γ) ((evals G C ds env m).bind fun vs m => R.ok (.ref m.length) (m ++ [.dic (mkDic ks vs [])])) Q from p) fun H1 m1 loc1 vs xs s1 r1 p1 q hq => p1 _ _ (loc1.push q) ?_ (kp_push s1 hq) (.ref ?_)
  · exact s1.push hq ⟨_, upd_same, r1.mono (kp_push s1 hq)⟩
  · exact push_at s1
theorem se_dct0 : SE Γ X (.Dict [] [] pos) (eval G C (.dct [] [])) := fun W tk => wkE pe_dnewK fun σ H Q ⟨env, m, loc, A, p⟩ q hq => (show Po Γ (fun c d H => W c d σ H) H m loc (rlD Γ) (.ok (.dic []) m) Q from p) _ _ loc (A.1.new hq) (kp_new hq A.1) (Rep.dic upd_same (A.1.no hq) .nil)
theorem se_newd0 : SE Γ X (.Dict [] [] pos) (eval G C (.newd [] [])) := fun W tk => wkE pe_dnewK fun σ H Q ⟨env, m, loc, A, p⟩ q hq => by
  refine (show Po Γ (fun c d H => W c d σ H) H m loc (rlD Γ) (.ok (.ref m.length) (m ++ [.dic []])) Q from p) _ _ (loc.push q) (A.1.push hq ⟨_, upd_same, .nil⟩) (kp_push A.1 hq) (.ref ?_)
  exact push_at A.1
/-! ### methods -/
/-- no call of super -/
def noSup : Expr → Bool
  | .Call (.Name _ _) [] [] _ => false
  | _ => true
theorem base_of {o : Expr} {m : Str} {env : PySem.Env} (h : noSup o = true) : attributeBase o m env (PySem.eval o env) = PySem.eval o env := by
  unfold attributeBase
  split
  · cases h
  · rfl
theorem isLst_rep {K : PySem.W.Frag} {H : Hp} {m : MH} {loc : Loc} (s : Sim K H m loc) {v : V} {d : D} (r : RepM K H m loc v d) (h : isLst m d = true) : ∃ a vs, v = .ref a ∧ H a = some (.lst vs) := by
  cases d with
  | lst xs =>
    cases r with
    | lst h nl z q => exact ⟨_, _, rfl, h⟩
  | ref n =>
    have h' : (match m[n]? with
      | some (.lst _) => true
      | _ => false) = true := h
    cases q : m[n]? with
    | none =>
      rw [q] at h'
      cases h'
    | some c =>
      rw [q] at h'
      cases c with
      | lst xs =>
        obtain ⟨a, vs, e, _, h1, _⟩ := lst_at s r q
        exact ⟨a, vs, e, h1⟩
      | _ => cases h'
  | _ => cases h
theorem asK_rep {K : PySem.W.Frag} {H : Hp} {m : MH} {loc : Loc} (s : Sim K H m loc) {v : V} {d : D} (r : RepM K H m loc v d) {kvs : List (Key × D)} (h : asK m d = some kvs) : ∃ a ks, v = .ref a ∧ H a = some (.dK ks) ∧ RepK K H (Live m loc) loc ks kvs := by
  cases d with
  | dic xs =>
    cases h
    cases r with
    | dic h nl q => exact ⟨_, _, rfl, h, q⟩
  | ref n =>
    have h' : (match m[n]? with
      | some (.dic kvs) => some kvs
      | _ => none) = some kvs := h
    cases q : m[n]? with
    | none =>
      rw [q] at h'
      cases h'
    | some c =>
      rw [q] at h'
      cases c with
      | dic xs =>
        cases h'
        obtain ⟨a, ks, e, _, h1, h2⟩ := dic_at s r q
        exact ⟨a, ks, e, h1, h2⟩
      | _ => cases h'
  | _ => cases h
theorem isDic_as {m : MH} {d : D} (h : isDic m d = true) : ∃ kvs, asK m d = some kvs := by
  cases d with
  | dic xs => exact ⟨_, rfl⟩
  | ref n =>
    have h' : (match m[n]? with
      | some (.dic _) => true
      | _ => false) = true := h
    show ∃ kvs, (match m[n]? with
      | some (.dic kvs) => some kvs
      | _ => none) = some kvs
    cases q : m[n]? with
    | none =>
      rw [q] at h'
      cases h'
    | some c =>
      rw [q] at h'
      cases c <;> first | exact ⟨_, rfl⟩ | cases h'
  | _ => cases h
theorem if_run {W : Value → Option Addr → Hp → Prop} {H : Hp} {m : MH} {loc : Loc} {b : Bool} {r : R D} {Q : VK} (p : Po Γ W H m loc (rlD Γ) (if b = true then r else .stuck) Q) : b = true ∧ Po Γ W H m loc (rlD Γ) r Q := by
  cases b with
  | true => exact ⟨rfl, p⟩
  | false => exact (show False from p).elim
theorem e_one {eb : Env → MH → R D} {env : Env} {m : MH} {k : List D → MH → R D} : (((eb env m).bind fun d m => (R.ok [] m).bind fun ds m => .ok (d :: ds) m).bind k) = (eb env m).bind fun d m => k [d] m := by
  cases eb env m <;> rfl
theorem se_append (hp : plainE b = true) (hn : noSup a = true) (hli : (apos.endLine == pos.line) = true) (ha : SE Γ X a ea) (hb : SE Γ X b eb) : SE Γ X (.Call (.Attribute a "append" apos) [b] [] pos) (fun env m => (ea env m).bind fun x m => if mtTy m .append x then ((eb env m).bind fun d m => (R.ok [] m).bind fun ds m => .ok (d :: ds) m).bind fun ds m => mtD .append x ds m else .stuck) := fun W tk => by
  refine wkE (pe_bm PySem.F.plainAttrs_list PySem.F.slot_list_append PySem.F.type_list_append mt_append (ha W tk) (pa_cons (hb W tk) pa_nil (starEach_cons hp)) (base_of hn) ?_ hli (starEach_cons hp) rfl) fun σ H Q ⟨env, m, loc, A, p⟩ => ?_
  · rw [starEach_cons hp]
    rfl
  · refine sub A p fun v1 H1 d1 m1 loc1 _ A1 k1 r1 p1 => ?_
    obtain ⟨ty, p1⟩ := if_run p1
    obtain ⟨a0, vs0, e0, h0⟩ := isLst_rep A1.1 r1 ty
    refine ⟨?_, ?_⟩
    · rw [e0]
      exact .inl ⟨rfl, vs0, SqL.of h0⟩
    · rw [e_one] at p1
      refine sub A1 p1 fun v2 H2 d2 m2 loc2 _ A2 k2 r2 p2 => ?_
      have r1 := r1.mono k2
      have p3 : Po Γ (fun c d H => W c d σ H) H2 m2 loc2 (rlD Γ) (appD d1 d2 m2) Q := p2
      cases d1 with
      | ref n =>
        have p4 : Po Γ (fun c d H => W c d σ H) H2 m2 loc2 (rlD Γ) (match m2[n]? with
          | some (.lst xs) => if xs.length < LIM then R.ok .non (m2.set n (.lst (xs ++ [d2]))) else .stuck
          | _ => .stuck) Q := p3
        cases q : m2[n]? with
        | none =>
          rw [q] at p4
          exact (show False from p4).elim
        | some c =>
          rw [q] at p4
          cases c with
          | lst xs =>
            obtain ⟨a, vs, e1, hl, h1, z, h2⟩ := lst_at A2.1 r1 q
            have p5 : Po Γ (fun c d H => W c d σ H) H2 m2 loc2 (rlD Γ) (if xs.length < LIM then R.ok .non (m2.set n (.lst (xs ++ [d2]))) else .stuck) Q := p4
            by_cases hz : xs.length < LIM
            · rw [if_pos hz] at p5
              have hd : Cell.lst xs ≠ .dead := fun z => nomatch z
              have hz' : vs.length < LIM := by rw [h2.length]; exact hz
              refine ⟨a, vs, v2, e1, rfl, h1, lim_lt hz', p5 _ _ loc2 (A2.1.put q hd hl ⟨_, upd_same, ?_, ?_⟩) (kp_put A2.1 q hd hl) .non⟩
              · rw [List.length_append]
                exact hz'
              · exact (h2.append (.cons r2 .nil)).mono (kp_put A2.1 q hd hl)
            · rw [if_neg hz] at p5
              exact (show False from p5).elim
          | _ => exact (show False from p4).elim
      | _ => exact (show False from p3).elim
theorem se_pop (hn : noSup a = true) (hli : (apos.endLine == pos.line) = true) (ha : SE Γ X a ea) : SE Γ X (.Call (.Attribute a "pop" apos) [] [] pos) (fun env m => (ea env m).bind fun x m => if mtTy m .pop x then (R.ok [] m).bind fun ds m => mtD .pop x ds m else .stuck) := fun W tk => by
  refine wkE (pe_bm0 PySem.F.plainAttrs_list PySem.F.slot_list_pop PySem.F.type_list_pop mt_pop (ha W tk) (base_of hn) hli) fun σ H Q ⟨env, m, loc, A, p⟩ => ?_
  refine sub A p fun v1 H1 d1 m1 loc1 _ A1 k1 r1 p1 => ?_
  obtain ⟨ty, p1⟩ := if_run p1
  obtain ⟨a0, vs0, e0, h0⟩ := isLst_rep A1.1 r1 ty
  refine ⟨?_, ?_⟩
  · rw [e0]
    exact .inl ⟨rfl, vs0, SqL.of h0⟩
  · have p3 : Po Γ (fun c d H => W c d σ H) H1 m1 loc1 (rlD Γ) (popD d1 m1) Q := p1
    cases d1 with
    | ref n =>
      have p4 : Po Γ (fun c d H => W c d σ H) H1 m1 loc1 (rlD Γ) (match m1[n]? with
        | some (.lst xs) => (match xs[xs.length - 1]? with
          | some y => R.ok y (m1.set n (.lst xs.dropLast))
          | none => .stuck)
        | _ => .stuck) Q := p3
      cases q : m1[n]? with
      | none =>
        rw [q] at p4
        exact (show False from p4).elim
      | some c =>
        rw [q] at p4
        cases c with
        | lst xs =>
          obtain ⟨a, vs, e1, hl, h1, z, h2⟩ := lst_at A1.1 r1 q
          have p5 : Po Γ (fun c d H => W c d σ H) H1 m1 loc1 (rlD Γ) (match xs[xs.length - 1]? with
            | some y => R.ok y (m1.set n (.lst xs.dropLast))
            | none => .stuck) Q := p4
          cases hy : xs[xs.length - 1]? with
          | none =>
            rw [hy] at p5
            exact (show False from p5).elim
          | some y =>
            rw [hy] at p5
            have hd : Cell.lst xs ≠ .dead := fun z => nomatch z
            obtain ⟨w, h3, h4⟩ := h2.get hy
            refine ⟨a, vs, w, e1, rfl, h1, by rw [h2.length]; exact h3, p5 _ _ loc1 (A1.1.put q hd hl ⟨_, upd_same, ?_, (h2.dropLast).mono (kp_put A1.1 q hd hl)⟩) (kp_put A1.1 q hd hl) (h4.mono (kp_put A1.1 q hd hl))⟩
            rw [List.length_dropLast]
            omega
        | _ => exact (show False from p4).elim
    | _ => exact (show False from p3).elim
theorem m2_of {m : Str} {f : Expr} (hp : plainE b = true) (hq : plainE f = true) (hn : noSup a = true) (hli : (apos.endLine == pos.line) = true) : M2 X a m apos b f pos := by
  refine ⟨base_of hn, ?_, hli, ?_⟩
  · rw [starEach_cons hp, starEach_cons hq]
    rfl
  · rw [starEach_cons hp, starEach_cons hq]
    rfl
theorem e_two {eb ec : Env → MH → R D} {env : Env} {m : MH} {k : List D → MH → R D} : (((eb env m).bind fun d m => ((ec env m).bind fun d m => (R.ok [] m).bind fun ds m => .ok (d :: ds) m).bind fun ds m => .ok (d :: ds) m).bind k) = (eb env m).bind fun d m => (ec env m).bind fun e m => k [d, e] m := by
  cases eb env m with
  | ok d m1 =>
    show (((ec env m1).bind _).bind _).bind k = (ec env m1).bind _
    cases ec env m1 <;> rfl
  | exc x m1 => rfl
  | stuck => rfl
theorem se_get (hu : X.A.units + 1 < cLine) (hp : plainE b = true) (hq : plainE c = true) (hn : noSup a = true) (hli : (apos.endLine == pos.line) = true) (ha : SE Γ X a ea) (hb : SE Γ X b eb) (hc : SE Γ X c ec) : SE Γ X (.Call (.Attribute a "get" apos) [b, c] [] pos) (fun env m => (ea env m).bind fun x m => if mtTy m .get x then ((eb env m).bind fun d m => ((ec env m).bind fun d m => (R.ok [] m).bind fun ds m => .ok (d :: ds) m).bind fun ds m => .ok (d :: ds) m).bind fun ds m => mtD .get x ds m else .stuck) := fun W tk => by
  refine wkE (pe_dget2 hu (ha W tk) (hb W tk) (hc W tk) (m2_of hp hq hn hli)) fun σ H Q ⟨env, m, loc, A, p⟩ => ?_
  refine sub A p fun v1 H1 d1 m1 loc1 _ A1 k1 r1 p1 => ?_
  obtain ⟨ty, p1⟩ := if_run p1
  obtain ⟨kvs0, hk0⟩ := isDic_as ty
  obtain ⟨a0, ks0, e0, h0, _⟩ := asK_rep A1.1 r1 hk0
  refine ⟨a0, e0, .inl ⟨ks0, .inl h0⟩, ?_⟩
  rw [e_two] at p1
  refine sub A1 p1 fun v2 H2 d2 m2 loc2 _ A2 k2 r2 p2 => sub A2 p2 fun v3 H3 d3 m3 loc3 _ A3 k3 r3 p3 => ?_
  have r1 := (r1.mono k2).mono k3
  have r2 := r2.mono k3
  have p4 : Po Γ (fun c d H => W c d σ H) H3 m3 loc3 (rlD Γ) (match asK m3 d1 with
    | some kvs => (match keyOf d2 with
      | some k => R.ok ((lookK k kvs).getD d3) m3
      | none => .stuck)
    | none => .stuck) Q := p3
  cases hk : asK m3 d1 with
  | none =>
    rw [hk] at p4
    exact (show False from p4).elim
  | some kvs =>
    rw [hk] at p4
    obtain ⟨a1, ks, e1, h1, h2⟩ := asK_rep A3.1 r1 hk
    have ea : a1 = a0 := by
      rw [e0] at e1
      exact (V.ref.inj e1).symm
    subst ea
    have p5 : Po Γ (fun c d H => W c d σ H) H3 m3 loc3 (rlD Γ) (match keyOf d2 with
      | some k => R.ok ((lookK k kvs).getD d3) m3
      | none => .stuck) Q := p4
    cases hy : keyOf d2 with
    | none =>
      rw [hy] at p5
      exact (show False from p5).elim
    | some k =>
      rw [hy] at p5
      refine ⟨valV ks k, ?_, ?_⟩
      · rw [keyOf_rep r2 hy]
        exact DGet.k h1
      · obtain ⟨g1, g2⟩ := lookK_rep k h2
        have p6 : Po Γ (fun c d H => W c d σ H) H3 m3 loc3 (rlD Γ) (R.ok ((lookK k kvs).getD d3) m3) Q := p5
        cases hl : lookK k kvs with
        | none =>
          rw [g2 hl]
          rw [hl] at p6
          exact p6.ret A3.1 r3
        | some d =>
          obtain ⟨w, q1, q2⟩ := g1 d hl
          rw [q1]
          rw [hl] at p6
          exact p6.ret A3.1 q2
theorem star1 {env : PySem.Env} (hp : plainE b = true) : starEach [b] env = [(false, PySem.eval b env)] := by
  rw [starEach_cons hp]
  rfl
theorem se_split (hp : plainE b = true) (hn : noSup a = true) (hli : (apos.endLine == pos.line) = true) (ha : SE Γ X a ea) (hb : SE Γ X b eb) : SE Γ X (.Call (.Attribute a "split" apos) [b] [] pos) (fun env m => (ea env m).bind fun x m => if mtTy m .split x then ((eb env m).bind fun d m => (R.ok [] m).bind fun ds m => .ok (d :: ds) m).bind fun ds m => mtD .split x ds m else .stuck) := fun W tk => by
  refine wkE (pe_split (ha W tk) (hb W tk) (star1 hp) (base_of hn) hli) fun σ H Q ⟨env, m, loc, A, p⟩ => ?_
  refine sub A p fun v1 H1 d1 m1 loc1 _ A1 k1 r1 p1 => ?_
  obtain ⟨ty, p1⟩ := if_run p1
  rw [e_one] at p1
  cases d1 with
  | str s =>
    cases r1
    refine ⟨⟨s, rfl⟩, sub A1 p1 fun v2 H2 d2 m2 loc2 _ A2 k2 r2 p2 => ?_⟩
    have p3 : Po Γ (fun c d H => W c d σ H) H2 m2 loc2 (rlD Γ) (splitD (.str s) d2 m2) Q := p2
    cases d2 with
    | str t =>
      cases r2
      have p4 : Po Γ (fun c d H => W c d σ H) H2 m2 loc2 (rlD Γ) (if (t.length == 0) = false ∧ s.length + 2 ≤ LIM then .ok (.lst ((Txt.split s t).map D.str)) m2 else .stuck) Q := p3
      by_cases hc : (t.length == 0) = false ∧ s.length + 2 ≤ LIM
      · rw [if_pos hc] at p4
        refine ⟨s, t, rfl, rfl, hc.1, lim_le hc.2, p4.lst A2.1 (Reps.strs _) ?_⟩
        rw [List.length_map]
        exact Nat.le_trans (PyProof.Rows.split_le s t) hc.2
      · rw [if_neg hc] at p4
        exact (show False from p4).elim
    | _ => exact (show False from p3).elim
  | _ => cases ty
theorem se_join (hK : X.K = Γ.K) (hp : plainE b = true) (hn : noSup a = true) (hli : (apos.endLine == pos.line) = true) (ha : SE Γ X a ea) (hb : SE Γ X b eb) : SE Γ X (.Call (.Attribute a "join" apos) [b] [] pos) (fun env m => (ea env m).bind fun x m => if mtTy m .join x then ((eb env m).bind fun d m => (R.ok [] m).bind fun ds m => .ok (d :: ds) m).bind fun ds m => mtD .join x ds m else .stuck) := fun W tk => by
  refine wkE (pe_join (ha W tk) (hb W tk) (star1 hp) (base_of hn) hli) fun σ H Q ⟨env, m, loc, A, p⟩ => ?_
  refine sub A p fun v1 H1 d1 m1 loc1 _ A1 k1 r1 p1 => ?_
  obtain ⟨ty, p1⟩ := if_run p1
  rw [e_one] at p1
  cases d1 with
  | str s =>
    cases r1
    refine ⟨⟨s, rfl⟩, sub A1 p1 fun v2 H2 d2 m2 loc2 _ A2 k2 r2 p2 => ?_⟩
    have p3 : Po Γ (fun c d H => W c d σ H) H2 m2 loc2 (rlD Γ) (match asT m2 d2 with
      | some xs => (match strsOf xs with
        | some ys => if (ys.map (·.length)).sum + ys.length * s.length ≤ 16777216 then R.ok (.str (Txt.join s ys)) m2 else .stuck
        | none => .stuck)
      | none => .stuck) Q := p2
    cases hx : asT m2 d2 with
    | none =>
      rw [hx] at p3
      exact (show False from p3).elim
    | some xs =>
      rw [hx] at p3
      have p4 : Po Γ (fun c d H => W c d σ H) H2 m2 loc2 (rlD Γ) (match strsOf xs with
        | some ys => if (ys.map (·.length)).sum + ys.length * s.length ≤ 16777216 then R.ok (.str (Txt.join s ys)) m2 else .stuck
        | none => .stuck) Q := p3
      cases hs : strsOf xs with
      | none =>
        rw [hs] at p4
        exact (show False from p4).elim
      | some ys =>
        rw [hs] at p4
        have p5 : Po Γ (fun c d H => W c d σ H) H2 m2 loc2 (rlD Γ) (if (ys.map (·.length)).sum + ys.length * s.length ≤ 16777216 then R.ok (.str (Txt.join s ys)) m2 else .stuck) Q := p4
        by_cases hz : (ys.map (·.length)).sum + ys.length * s.length ≤ 16777216
        · rw [if_pos hz] at p5
          have arg : ∃ q, v2 = .ref q ∧ (SqL X.K H2 q (ys.map V.str) ∨ SqT X.K H2 q (ys.map V.str)) := by
            cases d2 with
            | tup zs =>
              cases hx
              cases r2 with
              | tup h z q =>
                rw [q.strsOf hs] at h
                exact ⟨_, rfl, .inr (hK ▸ tupS h)⟩
            | _ =>
              obtain ⟨a1, vs, e1, h1, _, h2⟩ := asL_rep A2.1 r2 hx
              rw [h2.strsOf hs] at h1
              exact ⟨a1, e1, .inl (SqL.of h1)⟩
          obtain ⟨q, eq, hq⟩ := arg
          exact ⟨s, q, ys, rfl, by rw [eq], hq, hz, p5.ret A2.1 (.str _)⟩
        · rw [if_neg hz] at p5
          exact (show False from p5).elim
  | _ => cases ty
end
end Mi
/-! Mini: built-in functions, isinstance, copies of dicts, calls. -/
namespace Mi
open PySem PySem.Spec PyProof.Rows L2
variable [Glb]
section
variable {X : Cx} {Γ : Gam} {C : Call} {G : Nat → Option D} {a b c e o : Expr} {es : List Expr} {ea eb ec ev eo : Env → MH → R D} {pos p apos : Pos} {x : Str}
/-- a name of a built-in -/
structure BltN (X : Cx) (x : Str) (u : Value) : Prop where
  gl : Gl X x
  mg : X.mg x = none
  at_ : bootBuiltins x = some u
  nn : x ≠ "__name__"
  nd : (x == ("__debug__" : Str)) = false
/-- a built-in function over data -/
def BiOk (X : Cx) (Γ : Gam) (f : Value) (b : BI) : Prop := ∃ r, CallR X f r ∧
  ∀ (W : Value → Option Addr → Hp → Prop) (H : Hp) (m : MH) (loc : Loc) (vs : List V) (ds : List D) (d : D) (Q : VK), Sim Γ.K H m loc → Reps Γ.K H (Live m loc) loc vs ds → biD m b ds = some d → Po Γ W H m loc (rlD Γ) (.ok d m) Q → r vs H Q
theorem SEs.head {e : Expr} {es : List Expr} {ds : List E} (h : SEs Γ X G C (e :: es) ds) : plainE e = true := by
  cases h with
  | cons hp _ _ => exact hp
theorem SEs.tail {e : Expr} {es : List Expr} {ds : List E} (h : SEs Γ X G C (e :: es) ds) : ∀ x ∈ es, plainE x = true := by
  cases h with
  | cons hp _ t => exact t.plain
theorem se_bi {id : String} {f : BI} {ms : List E} (n : BltN X x (.builtin id)) (hf : BiOk X Γ (.builtin id) f) (hs : SEs Γ X G C (e :: es) ms) : SE Γ X (.Call (.Name x p) (e :: es) [] pos) (eval G C (.bi f ms)) := fun W tk => by
  obtain ⟨r, hr, hg⟩ := hf
  refine wkE (pe_callB hr n.gl n.mg n.at_ (hs.sa W tk) n.nn n.nd (starEach_cons hs.head) (nostars hs.tail)) fun σ H Q ⟨env, m, loc, A, p⟩ => ?_
  refine sub A (show Po Γ (fun c d H => W c d σ H) H m loc (rlD Γ) ((evals G C ms env m).bind fun ds m => ofO (biD m f ds) m) Q from p) fun vs H1 ds m1 loc1 _ A1 k1 r1 p1 => ?_
  obtain ⟨d, e1, p2⟩ := p1.ofO
  exact hg _ H1 m1 loc1 vs ds d Q A1.1 r1 e1 p2
theorem se_biT {id : String} {f : BI} {ms : List E} (n : BltN X x (.type id)) (hf : BiOk X Γ (.type id) f) (hs : SEs Γ X G C (e :: es) ms) : SE Γ X (.Call (.Name x p) (e :: es) [] pos) (eval G C (.bi f ms)) := fun W tk => by
  obtain ⟨r, hr, hg⟩ := hf
  refine wkE (pe_callTy hr n.gl n.mg n.at_ (hs.sa W tk) n.nn n.nd (starEach_cons hs.head) (nostars hs.tail)) fun σ H Q ⟨env, m, loc, A, p⟩ => ?_
  refine sub A (show Po Γ (fun c d H => W c d σ H) H m loc (rlD Γ) ((evals G C ms env m).bind fun ds m => ofO (biD m f ds) m) Q from p) fun vs H1 ds m1 loc1 _ A1 k1 r1 p1 => ?_
  obtain ⟨d, e1, p2⟩ := p1.ofO
  exact hg _ H1 m1 loc1 vs ds d Q A1.1 r1 e1 p2
theorem one1_of {g : D → Option D} {ds : List D} {d : D} (h : one1 g ds = some d) : ∃ x, ds = [x] ∧ g x = some d := by
  match ds, h with
  | [x], h => exact ⟨x, rfl, h⟩
theorem two2_of {g : D → D → Option D} {ds : List D} {d : D} (h : two2 g ds = some d) : ∃ x y, ds = [x, y] ∧ g x y = some d := by
  match ds, h with
  | [x, y], h => exact ⟨x, y, rfl, h⟩
theorem reps1 {K : PySem.W.Frag} {H : Hp} {L : Addr → Prop} {loc : Loc} {vs : List V} {d : D} (r : Reps K H L loc vs [d]) : ∃ v, vs = [v] ∧ Rep K H L loc v d := by
  cases r with
  | cons r t =>
    cases t
    exact ⟨_, rfl, r⟩
theorem reps2 {K : PySem.W.Frag} {H : Hp} {L : Addr → Prop} {loc : Loc} {vs : List V} {d e : D} (r : Reps K H L loc vs [d, e]) : ∃ v w, vs = [v, w] ∧ Rep K H L loc v d ∧ Rep K H L loc w e := by
  cases r with
  | cons r t =>
    obtain ⟨w, rfl, q⟩ := reps1 t
    exact ⟨_, _, rfl, r, q⟩
/-- a built-in of one argument -/
theorem bi_one {f : Value} {b : BI} {r : List V → Hp → VK → Prop} {g : MH → D → Option D} (hb : ∀ m, biD m b = one1 (g m)) (hr : CallR X f r)
    (h : ∀ (W : Value → Option Addr → Hp → Prop) (H : Hp) (m : MH) (loc : Loc) (v : V) (x d : D) (Q : VK), Sim Γ.K H m loc → RepM Γ.K H m loc v x → g m x = some d → Po Γ W H m loc (rlD Γ) (.ok d m) Q → r [v] H Q) : BiOk X Γ f b :=
  ⟨r, hr, fun W H m loc vs ds d Q s rs e p => by
    rw [hb] at e
    obtain ⟨x, rfl, e1⟩ := one1_of e
    obtain ⟨v, rfl, r1⟩ := reps1 rs
    exact h W H m loc v x d Q s r1 e1 p⟩
theorem bi_two {f : Value} {b : BI} {r : List V → Hp → VK → Prop} {g : D → D → Option D} (hb : ∀ m, biD m b = two2 g) (hr : CallR X f r)
    (h : ∀ (H : Hp) (v w : V) (x y d : D) (Q : VK) (L : Addr → Prop) (loc : Loc), Rep Γ.K H L loc v x → Rep Γ.K H L loc w y → g x y = some d → (∀ u, Rep Γ.K H L loc u d → Q u H) → r [v, w] H Q) : BiOk X Γ f b :=
  ⟨r, hr, fun W H m loc vs ds d Q s rs e p => by
    rw [hb] at e
    obtain ⟨x, y, rfl, e1⟩ := two2_of e
    obtain ⟨v, w, rfl, r1, r2⟩ := reps2 rs
    exact h H v w x y d Q _ _ r1 r2 e1 fun u q => p.ret s q⟩
theorem bi_len (hK : X.K = Γ.K) : BiOk X Γ (.builtin "len") .len := bi_one (fun _ => rfl) call_len fun W H m loc v x d Q s r e p => by
  have lst : (asL m x).map (fun xs => D.int xs.length) = some d → ∃ x n, [v] = [x] ∧ LenV X.K x H n ∧ Q (.int n) H := fun e => by
    obtain ⟨xs, e1, e2⟩ := Option.map_eq_some_iff.mp e
    obtain ⟨a, vs, rfl, h1, _, h2⟩ := asL_rep s r e1
    subst e2
    refine ⟨_, vs.length, rfl, .inl ⟨vs, SqL.of h1, rfl⟩, p.ret s ?_⟩
    rw [h2.length]
    exact .int _
  cases x with
  | str z =>
    cases r
    have e' : (if z.length ≤ LIM then some (D.int z.length) else none) = some d := e
    split at e'
    · rename_i hz
      cases e'
      exact ⟨_, z.length, rfl, ⟨lim_le hz, rfl⟩, p.ret s (.int _)⟩
    · cases e'
  | tup xs =>
    cases e
    cases r with
    | @tup a vs _ h z q =>
      refine ⟨_, vs.length, rfl, .inr ⟨vs, hK ▸ tupS h, rfl⟩, p.ret s ?_⟩
      rw [q.length]
      exact .int _
  | scr ns =>
    cases e
    cases r with
    | @scr a ns h z =>
      refine ⟨_, (ns.map V.int).length, rfl, .inl ⟨_, hK ▸ scrS h, rfl⟩, p.ret s ?_⟩
      rw [List.length_map]
      exact .int _
  | non => exact lst e
  | bl _ => exact lst e
  | int _ => exact lst e
  | lst _ => exact lst e
  | dic _ => exact lst e
  | ref _ => exact lst e
  | cls _ => exact lst e
theorem bi_abs : BiOk X Γ (.builtin "abs") .abs := bi_one (fun _ => rfl) call_abs fun W H m loc v x d Q s r e p => by
  cases x with
  | int i =>
    cases r
    cases e
    exact ⟨i, rfl, p.ret s (.int _)⟩
  | _ => cases e
theorem bi_int : BiOk X Γ (.type "int") .int := bi_one (fun _ => rfl) call_int1 fun W H m loc v x d Q s r e p => by
  cases x with
  | int i =>
    cases r
    cases e
    exact .inl ⟨i, rfl, p.ret s (.int _)⟩
  | bl i =>
    cases r
    cases e
    exact .inr ⟨i, rfl, p.ret s (.int _)⟩
  | _ => cases e
theorem bi_tuple (hK : X.K = Γ.K) : BiOk X Γ (.type "tuple") .tuple := bi_one (fun _ => rfl) call_tuple_of fun W H m loc v x d Q s r e p => by
  have lst : (asL m x).map D.tup = some d → ∃ p ys, [v] = [V.ref p] ∧ ((SqL X.K H p ys ∧ ∀ l, H l = none → Q (.ref l) (upd H l (.tup ys))) ∨ (SqT X.K H p ys ∧ Q (.ref p) H)) := fun e => by
    obtain ⟨xs, e1, e2⟩ := Option.map_eq_some_iff.mp e
    obtain ⟨a, vs, rfl, h1, z, h2⟩ := asL_rep s r e1
    subst e2
    exact ⟨a, vs, rfl, .inl ⟨SqL.of h1, p.tup s h2 z⟩⟩
  cases x with
  | tup xs =>
    cases e
    cases r with
    | @tup a vs _ h z q => exact ⟨a, vs, rfl, .inr ⟨hK ▸ tupS h, p.ret s (.tup h z q)⟩⟩
  | scr ns => exact lst e
  | non => exact lst e
  | bl _ => exact lst e
  | int _ => exact lst e
  | str _ => exact lst e
  | lst _ => exact lst e
  | dic _ => exact lst e
  | ref _ => exact lst e
  | cls _ => exact lst e
theorem bi_list (hK : X.K = Γ.K) : BiOk X Γ (.type "list") .list := bi_one (fun _ => rfl) call_list_of fun W H m loc v x d Q s r e p => by
  have lst : (asL m x).map D.lst = some d → ∃ p ys, [v] = [V.ref p] ∧ (SqL X.K H p ys ∨ SqT X.K H p ys) ∧ ∀ l, H l = none → Q (.ref l) (upd H l (.lst ys)) := fun e => by
    obtain ⟨xs, e1, e2⟩ := Option.map_eq_some_iff.mp e
    obtain ⟨a, vs, rfl, h1, z, h2⟩ := asL_rep s r e1
    subst e2
    exact ⟨a, vs, rfl, .inl (SqL.of h1), p.lst s h2 z⟩
  cases x with
  | tup xs =>
    cases e
    cases r with
    | @tup a vs _ h z q => exact ⟨a, vs, rfl, .inr (hK ▸ tupS h), p.lst s q z⟩
  | scr ns => exact lst e
  | non => exact lst e
  | bl _ => exact lst e
  | int _ => exact lst e
  | str _ => exact lst e
  | lst _ => exact lst e
  | dic _ => exact lst e
  | ref _ => exact lst e
  | cls _ => exact lst e
theorem bi_all (hc : X.calm = true) : BiOk X Γ (.builtin "all") .all := bi_one (fun _ => rfl) (cr_all hc) fun W H m loc v x d Q s r e p => by
  obtain ⟨xs, e1, e2⟩ := Option.bind_eq_some_iff.mp e
  obtain ⟨bs, e3, e4⟩ := Option.map_eq_some_iff.mp e2
  obtain ⟨a, vs, rfl, h1, z, h2⟩ := asL_rep s r e1
  subst e4
  exact ⟨a, bs, rfl, (h2.blsOf e3) ▸ SqL.of h1, p.ret s (.bl _)⟩
theorem bi_any (hc : X.calm = true) : BiOk X Γ (.builtin "any") .any := bi_one (fun _ => rfl) (cr_any hc) fun W H m loc v x d Q s r e p => by
  obtain ⟨xs, e1, e2⟩ := Option.bind_eq_some_iff.mp e
  obtain ⟨bs, e3, e4⟩ := Option.map_eq_some_iff.mp e2
  obtain ⟨a, vs, rfl, h1, z, h2⟩ := asL_rep s r e1
  subst e4
  exact ⟨a, bs, rfl, (h2.blsOf e3) ▸ SqL.of h1, p.ret s (.bl _)⟩
theorem bi_sum (hc : X.calm = true) : BiOk X Γ (.builtin "sum") .sum := bi_one (fun _ => rfl) (cr_sum hc) fun W H m loc v x d Q s r e p => by
  obtain ⟨xs, e1, e2⟩ := Option.bind_eq_some_iff.mp e
  obtain ⟨bs, e3, e4⟩ := Option.map_eq_some_iff.mp e2
  obtain ⟨a, vs, rfl, h1, z, h2⟩ := asL_rep s r e1
  subst e4
  exact ⟨a, bs, rfl, (h2.intsOf e3) ▸ SqL.of h1, p.ret s (.int _)⟩
theorem bi_min2 (hc : X.calm = true) : BiOk X Γ (.builtin "min") .min2 := bi_two (fun _ => rfl) (call_min2 hc) fun H v w x y d Q L loc r1 r2 e p => by
  cases x with
  | int i =>
    cases y with
    | int j =>
      cases r1
      cases r2
      cases e
      exact ⟨i, j, rfl, p _ (.int _)⟩
    | _ => cases e
  | _ => cases e
theorem bi_max2 (hc : X.calm = true) : BiOk X Γ (.builtin "max") .max2 := bi_two (fun _ => rfl) (call_max2 hc) fun H v w x y d Q L loc r1 r2 e p => by
  cases x with
  | int i =>
    cases y with
    | int j =>
      cases r1
      cases r2
      cases e
      exact ⟨i, j, rfl, p _ (.int _)⟩
    | _ => cases e
  | _ => cases e
theorem insI_perm (x : Int) : ∀ ns : List Int, (insI x ns).Perm (x :: ns)
  | [] => List.Perm.refl _
  | j :: r => by
    unfold insI
    split
    · exact List.Perm.refl _
    · exact ((insI_perm x r).cons j).trans (List.Perm.swap x j r)
theorem sortI_perm : ∀ ns : List Int, (sortI ns).Perm ns
  | [] => List.Perm.refl _
  | x :: r => (insI_perm x _).trans ((sortI_perm r).cons x)
theorem insI_rises (x : Int) : ∀ ns : List Int, ns.Pairwise (· ≤ ·) → (insI x ns).Pairwise (· ≤ ·)
  | [], _ => List.pairwise_singleton _ _
  | j :: r, h => by
    unfold insI
    obtain ⟨h1, h2⟩ := List.pairwise_cons.mp h
    split
    · rename_i q
      refine List.pairwise_cons.mpr ⟨fun z hz => ?_, h⟩
      rcases List.mem_cons.mp hz with e | hz
      · omega
      · exact Int.le_trans q (h1 z hz)
    · rename_i q
      refine List.pairwise_cons.mpr ⟨fun z hz => ?_, insI_rises x r h2⟩
      rcases List.mem_cons.mp ((insI_perm x r).mem_iff.mp hz) with e | hz
      · omega
      · exact h1 z hz
theorem sortI_rises : ∀ ns : List Int, (sortI ns).Pairwise (· ≤ ·)
  | [] => .nil
  | x :: r => insI_rises x _ (sortI_rises r)
theorem eq_sortI {ns ns' : List Int} (hp : ns'.Perm ns) (hs : ns'.Pairwise (· ≤ ·)) : ns' = sortI ns :=
  List.Perm.eq_of_pairwise (fun _ _ _ _ a b => Int.le_antisymm a b) hs (sortI_rises ns) (hp.trans (sortI_perm ns).symm)
theorem bi_sorted : BiOk X Γ (.builtin "sorted") .sorted := bi_one (fun _ => rfl) cr_sortedI fun W H m loc v x d Q s r e p => by
  obtain ⟨xs, e1, e2⟩ := Option.bind_eq_some_iff.mp e
  obtain ⟨ns, e3, e4⟩ := Option.bind_eq_some_iff.mp e2
  obtain ⟨a, vs, rfl, h1, z, h2⟩ := asL_rep s r e1
  split at e4
  · rename_i hz
    cases e4
    refine ⟨a, ns, rfl, (h2.intsOf e3) ▸ SqL.of h1, fun ns' q hp hs hq => ?_⟩
    rw [eq_sortI hp hs]
    refine p.lst s (Reps.ints _) ?_ q hq
    rw [List.length_map, (sortI_perm ns).length_eq]
    exact Nat.le_trans (Nat.le_of_lt hz) (by decide)
  · cases e4
/-! ### isinstance -/
def tyN : Ty → String
  | .int => "int"
  | .bool => "bool"
  | .str => "str"
  | .tuple => "tuple"
  | .list => "list"
theorem tyx_of {K : PySem.W.Frag} {H : Hp} {L : Addr → Prop} {loc : Loc} {v : V} {d : D} (r : Rep K H L loc v d) {t : Ty} {k : Bool} (h : isiD t d = some k) : ∃ n, TyX K H v (.type n) ∧ kitB n (tyN t) = some k := by
  cases r with
  | non => exact ⟨_, .base .non, by cases t <;> cases h <;> decide +kernel⟩
  | bl b => exact ⟨_, .base (.bl b), by cases t <;> cases h <;> decide +kernel⟩
  | int i => exact ⟨_, .base (.int i), by cases t <;> cases h <;> decide +kernel⟩
  | str s => exact ⟨_, .base (.str s), by cases t <;> cases h <;> decide +kernel⟩
  | tup q z _ =>
    refine ⟨"tuple", ?_, by cases t <;> cases h <;> decide +kernel⟩
    rcases q with ⟨q | ⟨o, q⟩, _⟩ | ⟨o, its, n, q, qc, _⟩
    · exact .base (.tup q)
    · exact .fTuple q
    · exact .kTuple q qc
  | lst q _ _ _ => exact ⟨_, .base (.lst q), by cases t <;> cases h <;> decide +kernel⟩
  | dic _ _ _ => cases t <;> cases h
  | scr q z =>
    refine ⟨"list", ?_, by cases t <;> cases h <;> decide +kernel⟩
    rcases q with ⟨q | ⟨o, q⟩, _⟩ | ⟨o, its, n, q, qc, _⟩
    · exact .base (.lst q)
    · exact .base (.frz q)
    · exact .kList q qc
  | ref q => cases t <;> cases h
  | cls q => cases t <;> cases h
theorem se_isi {x y : Str} {t : Ty} {p2 : Pos} (hK : X.K = Γ.K) (n : BltN X x (.builtin "isinstance")) (n2 : BltN X y (.type (tyN t))) (hp : plainE a = true) (ha : SE Γ X a ea) : SE Γ X (.Call (.Name x p) [a, .Name y p2] [] pos) (fun env m => (ea env m).bind fun x m => ofO ((isiD t x).map D.bl) m) := fun W tk => by
  refine wkE (pe_callB call_isi n.gl n.mg n.at_ (pa_cons (ha W tk) (pa_cons (pe_bltn (v := .ty (tyN t)) n2.gl n2.mg n2.at_ (show RelV (.ty (tyN t)) (.type (tyN t)) from rfl) n2.nn n2.nd) pa_nil (starEach_cons rfl)) (starEach_cons hp)) n.nn n.nd (starEach_cons hp) (nostars (es := [.Name y p2]) fun e he => by
    rcases List.mem_cons.mp he with q | q
    · rw [q]
      rfl
    · cases q)) fun σ H Q ⟨env, m, loc, A, p⟩ => ?_
  refine sub A p fun v H1 d m1 loc1 _ A1 k1 r1 p1 => ?_
  obtain ⟨d', e1, p2⟩ := p1.ofO
  obtain ⟨k, e2, e3⟩ := Option.map_eq_some_iff.mp e1
  subst e3
  obtain ⟨n, h1, h2⟩ := tyx_of r1 e2
  exact ⟨v, .ty (tyN t), .type n, .type (tyN t), k, rfl, .ty _, hK ▸ h1, kit_ty h2, p2.ret A1.1 (.bl _)⟩
/-! ### a dict's copy -/
theorem call_copy : CallR X (.type "dict") (fun xs H Q => ∃ (a : Addr) (kvs : List (Key × V)), xs = [.ref a] ∧ Rd H a (.dK kvs) ∧ ∀ p, H p = none → Q (.ref p) (upd H p (.dK kvs))) := by
  intro pins s σ H vs us Q I r h
  obtain ⟨a, kvs, rfl, e, q⟩ := h
  obtain ⟨u, rfl, ru⟩ := vals1 r
  cases (show u = Value.ref a from ru)
  exact d_copyOf I e fun p s' hp I' => ⟨.ref p, _, I', rfl, q p hp⟩
theorem se_cpd (n : BltN X x (.type "dict")) (hp : plainE a = true) (ha : SE Γ X a ea) : SE Γ X (.Call (.Name x p) [a] [] pos) (fun env m => (ea env m).bind fun x m => match asK m x with
    | some kvs => .ok (.ref m.length) (m ++ [.dic kvs])
    | none => .stuck) := fun W tk => by
  refine wkE (pe_callTy call_copy n.gl n.mg n.at_ (pa_cons (ha W tk) pa_nil (starEach_cons hp)) n.nn n.nd (starEach_cons hp) rfl) fun σ H Q ⟨env, m, loc, A, p⟩ => ?_
  refine sub A p fun v H1 d m1 loc1 _ A1 k1 r1 p1 => ?_
  cases hk : asK m1 d with
  | none =>
    rw [hk] at p1
    exact (show False from p1).elim
  | some kvs =>
    rw [hk] at p1
    obtain ⟨a, ks, rfl, h1, h2⟩ := asK_rep A1.1 r1 hk
    refine ⟨a, ks, rfl, .inl h1, fun q hq => p1 _ _ (loc1.push q) ?_ (kp_push A1.1 hq) (.ref ?_)⟩
    · exact A1.1.push hq ⟨ks, upd_same, h2.mono (kp_push A1.1 hq)⟩
    · exact push_at A1.1
/-! ### calls of the module's functions -/
/-- a def's run, as a summary -/
def spF (Γ : Gam) (n : Nat) (call : List D → MH → R D) : Sp := fun vs H Q E => vs.length = n ∧ ∃ ds m loc, Sim Γ.K H m loc ∧ Reps Γ.K H (Live m loc) loc vs ds ∧ Po Γ E H m loc (rlD Γ) (call ds m) Q
/-- a def that may be called -/
structure FnAt (X : Cx) (Γ : Gam) (x : Str) (n : Nat) (call : List D → MH → R D) : Prop where
  nd : (x == ("__debug__" : Str)) = false
  gl : Gl X x
  fn : ∃ (k : Nat) (f : Addr) (fd : FuncData) (ps : List Str), X.mg x = some (.ref f) ∧ PySem.W.keepIn X.K (.ref f) = true ∧ Binds X.K fd ps [] ∧ Room k X.A ∧ FnOk X.prog X.w X.K X.mg X.base (L2N.CX X.prog X.w) k f fd ps (spF Γ n call)
theorem se_call {f : Nat} {ms : List E} (F : FnAt X Γ x ms.length (C f)) (hs : SEs Γ X G C (e :: es) ms) : SE Γ X (.Call (.Name x p) (e :: es) [] pos) (eval G C (.call f ms)) := fun W tk => by
  obtain ⟨k, fa, fd, ps, h1, h2, h3, h4, h5⟩ := F.fn
  refine wkE (pe_callS h5 h4 F.gl h1 h2 h3 (fun σ => L2N.passAt tk σ) (hs.sa W tk) F.nd (starEach_cons hs.head) (nostars hs.tail)) fun σ H Q ⟨env, m, loc, A, p⟩ => ?_
  refine sub A (show Po Γ (fun c d H => W c d σ H) H m loc (rlD Γ) ((evals G C ms env m).bind fun ds m => C f ds m) Q from p) fun vs H1 ds m1 loc1 e1 A1 k1 r1 p1 => ?_
  exact ⟨by rw [r1.length, evals_len e1], ds, m1, loc1, A1.1, r1, p1⟩
theorem pe_callS0 {CX : CXT} {k : Nat} {f : Addr} {fd : FuncData} {ps : List Str} {sp : Sp} {E : L2.St → XK} (F : FnOk X.prog X.w X.K X.mg X.base CX k f fd ps sp) (hr : Room k X.A) (hg : Gl X x) (hm : X.mg x = some (.ref f)) (hk : PySem.W.keepIn X.K (.ref f) = true) (hb : Binds X.K fd ps []) (hx : ∀ σ, PassesAt CX X σ (E σ))
    (hdb : (x == ("__debug__" : Str)) = false) : PE X (.Call (.Name x p) [] [] pos) (fun σ H Q => sp [] H Q (E σ)) := by
  refine ⟨fun pins s σ H Q I h => ?_⟩
  refine wpAny_Call_Name_kw (ld_glob I hg hm ?_ hdb)
  exact PySem.W.callWith_K0 I.kIn hk (run_fnS (us := []) F hr hb (hx σ) I .nil h)
theorem se_call0 {f : Nat} (F : FnAt X Γ x 0 (C f)) : SE Γ X (.Call (.Name x p) [] [] pos) (eval G C (.call f [])) := fun W tk => by
  obtain ⟨k, fa, fd, ps, h1, h2, h3, h4, h5⟩ := F.fn
  refine wkE (pe_callS0 h5 h4 F.gl h1 h2 h3 (E := WE W) (fun σ => L2N.passAt tk σ) F.nd) fun σ H Q ⟨env, m, loc, A, p⟩ => ?_
  exact ⟨rfl, [], m, loc, A.1, .nil, show Po Γ (fun c d H => W c d σ H) H m loc (rlD Γ) (C f [] m) Q from p⟩
end
end Mi
/-! Mini: targets, statements. -/
namespace Mi
open PySem PySem.Spec PyProof.Rows L2
variable [Glb]
/-! ### targets -/
def tgS : Tg → List Nat
  | .one i => [i]
  | .many is => is
def gsOf : List Nat → TGs
  | [] => gNil
  | i :: is => gCons (gName i) (gsOf is)
def gOf (K : PySem.W.Frag) : Tg → TG
  | .one i => gName i
  | .many is => gTup K is.length (gsOf is)
theorem wipe_in {σ : L2.St} {j : Nat} : ∀ {vs : List Nat}, j ∈ vs → (wipe σ vs)[j]? = if j < σ.length then some none else none
  | [], h => by cases h
  | v :: vs, h => by
    show ((wipe σ vs).set v none)[j]? = _
    by_cases e : v = j
    · subst e
      by_cases q : v < σ.length
      · rw [if_pos q, List.getElem?_set_self (by rw [wipe_length]; exact q)]
      · rw [if_neg q, List.getElem?_eq_none (by rw [List.length_set, wipe_length]; omega)]
    · rw [List.getElem?_set_ne e]
      rcases List.mem_cons.mp h with h | h
      · exact absurd h.symm e
      · exact wipe_in h
theorem wipe_set {σ : L2.St} {i : Nat} {x : Option V} {vs : List Nat} (h : i ∈ vs) : wipe (σ.set i x) vs = wipe σ vs := by
  refine List.ext_getElem? fun j => ?_
  by_cases q : j ∈ vs
  · rw [wipe_in q, wipe_in q, List.length_set]
  · rw [wipe_out q, wipe_out q, List.getElem?_set_ne (fun e => q (by rw [← e]; exact h))]
theorem wipeL_at : ∀ {is : List Nat} {env : Env} {j : Nat} {d : D}, (is.foldr (fun i (e : Env) => e.set i none) env)[j]? = some (some d) → j ∉ is ∧ env[j]? = some (some d)
  | [], _, _, _, h => ⟨by simp, h⟩
  | i :: is, env, j, d, h => by
    have h : ((is.foldr (fun i (e : Env) => e.set i none) env).set i none)[j]? = some (some d) := h
    by_cases e : i = j
    · subst e
      rw [List.getElem?_set] at h
      rw [if_pos rfl] at h
      split at h <;> cases h
    · rw [List.getElem?_set_ne e] at h
      obtain ⟨h1, h2⟩ := wipeL_at h
      exact ⟨fun m => (List.mem_cons.mp m).elim (fun q => e q.symm) h1, h2⟩
theorem wipeL_len : ∀ {is : List Nat} {env : Env}, (is.foldr (fun i (e : Env) => e.set i none) env).length = env.length
  | [], _ => rfl
  | i :: is, env => by
    show ((is.foldr (fun i (e : Env) => e.set i none) env).set i none).length = _
    rw [List.length_set, wipeL_len]
theorem wipeT_at {tg : Tg} {env : Env} {j : Nat} {d : D} (h : (wipeT tg env)[j]? = some (some d)) : j ∉ tgS tg ∧ env[j]? = some (some d) := by
  cases tg with
  | one i => exact wipeL_at (is := [i]) h
  | many is => exact wipeL_at h
theorem wipeT_len {tg : Tg} {env : Env} : (wipeT tg env).length = env.length := by
  cases tg with
  | one i => exact wipeL_len (is := [i])
  | many is => exact wipeL_len
theorem EnvR.wipe {K : PySem.W.Frag} {H : Hp} {L : Addr → Prop} {l : Loc} {σ : L2.St} {env : Env} (e : EnvR K H L l σ env) {tg : Tg} {vs : List Nat} (h : ∀ i ∈ vs, i ∈ tgS tg) : EnvR K H L l (L2.wipe σ vs) (wipeT tg env) := by
  refine ⟨by rw [wipe_length, wipeT_len, e.len], fun j d q => ?_⟩
  obtain ⟨h1, h2⟩ := wipeT_at q
  obtain ⟨v, h3, h4⟩ := e.at_ j d h2
  exact ⟨v, by rw [wipe_out (fun z => h1 (h j z))]; exact h3, h4⟩
theorem gs_run {K : PySem.W.Frag} {H : Hp} {L : Addr → Prop} {loc : Loc} : ∀ {is : List Nat} {vs : List V} {ds : List D} {σ : L2.St} {env : Env} {Q : L2.St → Hp → Prop}, is.length = ds.length → Reps K H L loc vs ds → EnvR K H L loc σ env →
    (∀ σ', EnvR K H L loc σ' ((is.zip ds).foldl (fun (e : Env) p => e.set p.1 (some p.2)) env) → (∀ ws : List Nat, (∀ i ∈ is, i ∈ ws) → wipe σ' ws = wipe σ ws) → Q σ' H) → gsOf is vs σ H Q
  | [], _, _, σ, env, Q, hl, .nil, e, h => ⟨rfl, h σ e fun _ _ => rfl⟩
  | [], _, _, σ, env, Q, hl, .cons _ _, e, h => by cases hl
  | i :: is, _, _, σ, env, Q, hl, .nil, e, h => by cases hl
  | i :: is, _, _, σ, env, Q, hl, .cons r t, e, h => ⟨_, _, rfl, gs_run (by simpa using hl) t (e.set r i) fun σ' e' w => h σ' e' fun ws hw => by
      rw [w ws fun j hj => hw j (List.mem_cons_of_mem _ hj)]
      exact wipe_set (hw i List.mem_cons_self)⟩
theorem g_run {K : PySem.W.Frag} {H : Hp} {L : Addr → Prop} {loc : Loc} {tg : Tg} {v : V} {d : D} {σ : L2.St} {env env' : Env} {Q : L2.St → Hp → Prop} (r : Rep K H L loc v d) (e : EnvR K H L loc σ env) (hs : setT tg d env = some env')
    (h : ∀ σ', EnvR K H L loc σ' env' → (∀ ws : List Nat, (∀ i ∈ tgS tg, i ∈ ws) → wipe σ' ws = wipe σ ws) → Q σ' H) : gOf K tg v σ H Q := by
  cases tg with
  | one i =>
    cases hs
    exact h _ (e.set r i) fun ws hw => wipe_set (hw i List.mem_cons_self)
  | many is =>
    cases r with
    | @tup a vs ds hq z q =>
      have hs' : (if is.length = ds.length then some ((is.zip ds).foldl (fun (e : Env) p => e.set p.1 (some p.2)) env) else none) = some env' := hs
      split at hs'
      · rename_i hl
        cases hs'
        exact ⟨a, vs, rfl, tupS hq, by rw [q.length]; exact hl.symm, gs_run hl q e h⟩
      · cases hs'
    | _ => cases hs
/-- names that are stored, in order -/
inductive NmS (X : Cx) : List Expr → List Nat → Prop
  | nil : NmS X [] []
  | cons {x : Str} {pos : Pos} {i : Nat} {es : List Expr} {is : List Nat} : X.N[i]? = some x → L2.Loc X.env.scope x → (X.fn x = true ∨ X.env.scope.names.lookup x = some .local) → NmS X es is → NmS X (.Name x pos :: es) (i :: is)
theorem NmS.len {X : Cx} : ∀ {es : List Expr} {is : List Nat}, NmS X es is → (assignEach es X.env).length = is.length
  | _, _, .nil => rfl
  | _, _, .cons _ _ _ t => congrArg (· + 1) t.len
theorem NmS.nost {X : Cx} : ∀ {es : List Expr} {is : List Nat}, NmS X es is → ∀ p ∈ assignEach es X.env, p.1 = false
  | _, _, .nil => fun p h => by cases h
  | _, _, .cons _ _ _ t => fun p h => by
    rcases List.mem_cons.mp h with q | q
    · rw [q]
    · exact t.nost p q
theorem NmS.pgs {X : Cx} (hN : X.N.Nodup) : ∀ {es : List Expr} {is : List Nat}, NmS X es is → PGs X es (gsOf is)
  | _, _, .nil => pgs_nil
  | _, _, .cons h1 h2 h3 t => pgs_cons (pg_name hN h1 h2 h3) (t.pgs hN)
/-- a target, as data -/
inductive TgOk (X : Cx) : Expr → Tg → Prop
  | one {x : Str} {pos : Pos} {i : Nat} : X.N[i]? = some x → L2.Loc X.env.scope x → (X.fn x = true ∨ X.env.scope.names.lookup x = some .local) → TgOk X (.Name x pos) (.one i)
  | many {es : List Expr} {k : Nat} {pos : Pos} {is : List Nat} : NmS X es is → TgOk X (.Tuple es k pos) (.many is)
theorem TgOk.pg {X : Cx} (hN : X.N.Nodup) (hc : X.calm = true) {t : Expr} {tg : Tg} (h : TgOk X t tg) : PG X t (gOf X.K tg) := by
  cases h with
  | one h1 h2 h3 => exact pg_name hN h1 h2 h3
  | many h => exact pg_tup hc (h.pgs hN) h.len (List.findIdx?_eq_none_iff.mpr fun p hp => by rw [h.nost p hp])
/-! ### statements -/
def PoS (Γ : Gam) (W : WX) (H : Hp) (m : MH) (loc : Loc) (r : Mi.X) (D : Ends) : Prop := match r with
  | none => False
  | some (.nx e, m') => ∀ σ' H' loc', Sim Γ.K H' m' loc' → KpM H m loc H' m' loc' → EnvR Γ.K H' (Live m' loc') loc' σ' e → D.nx σ' H'
  | some (.bk e, m') => ∀ σ' H' loc', Sim Γ.K H' m' loc' → KpM H m loc H' m' loc' → EnvR Γ.K H' (Live m' loc') loc' σ' e → D.bk σ' H'
  | some (.ct e, m') => ∀ σ' H' loc', Sim Γ.K H' m' loc' → KpM H m loc H' m' loc' → EnvR Γ.K H' (Live m' loc') loc' σ' e → D.ct σ' H'
  | some (.rt d, m') => ∀ v H' loc', Sim Γ.K H' m' loc' → KpM H m loc H' m' loc' → RepM Γ.K H' m' loc' v d → D.rt v H'
  | some (.ex x e, m') => ∀ σ' H' loc', Sim Γ.K H' m' loc' → KpM H m loc H' m' loc' → EnvR Γ.K H' (Live m' loc') loc' σ' e → ∀ cls d, Γ.XR x cls d H' → W cls d σ' H'
section
variable {Γ : Gam} {W : WX} {H H' : Hp} {m m' : MH} {loc loc' : Loc} {D : Ends}
theorem PoS.later {r : Mi.X} (p : PoS Γ W H m loc r D) (k : KpM H m loc H' m' loc') : PoS Γ W H' m' loc' r D := by
  cases r with
  | none => exact p
  | some q =>
    obtain ⟨f, m2⟩ := q
    cases f with
    | nx e => exact fun σ2 H2 l2 s2 k2 r2 => p σ2 H2 l2 s2 (k.trans k2) r2
    | bk e => exact fun σ2 H2 l2 s2 k2 r2 => p σ2 H2 l2 s2 (k.trans k2) r2
    | ct e => exact fun σ2 H2 l2 s2 k2 r2 => p σ2 H2 l2 s2 (k.trans k2) r2
    | rt d => exact fun v H2 l2 s2 k2 r2 => p v H2 l2 s2 (k.trans k2) r2
    | ex x e => exact fun σ2 H2 l2 s2 k2 r2 => p σ2 H2 l2 s2 (k.trans k2) r2
def tS (Γ : Gam) (W : WX) (ex : Env → MH → Mi.X) : TS := fun D σ H => ∃ env m loc, At Γ σ H env m loc ∧ PoS Γ W H m loc (ex env m) D
def SS (Γ : Gam) (X : Cx) (s : Stmt) (ex : Env → MH → Mi.X) : Prop := ∀ W : WX, L2N.Takes X W → PS X s (tS Γ W ex)
def SSs (Γ : Gam) (X : Cx) (s : List Stmt) (ex : Env → MH → Mi.X) : Prop := ∀ W : WX, L2N.Takes X W → PSs X s (tS Γ W ex)
theorem wkS {X : Cx} {s : Stmt} {t t' : TS} (h : PS X s t) (w : ∀ D σ H, t' D σ H → t D σ H) : PS X s t' := ⟨fun pins s σ H D I hw => h.run pins s σ H D I (w D σ H hw)⟩
theorem wkSs {X : Cx} {s : List Stmt} {t t' : TS} (h : PSs X s t) (w : ∀ D σ H, t' D σ H → t D σ H) : PSs X s t' := ⟨fun pins s σ H D I hw => h.run pins s σ H D I (w D σ H hw)⟩
/-- an expression's run within a statement -/
theorem subS {α β : Type} {Rl : Hp → MH → Loc → β → α → Prop} {ev : Env → MH → R α} {σ : L2.St} {env : Env} {k : α → MH → Mi.X} {Q' : β → Hp → Prop}
    (a : At Γ σ H env m loc) (p : PoS Γ W H m loc ((ev env m).at env k) D)
    (h : ∀ v H1 d m1 loc1, ev env m = .ok d m1 → At Γ σ H1 env m1 loc1 → KpM H m loc H1 m1 loc1 → Rl H1 m1 loc1 v d → PoS Γ W H1 m1 loc1 (k d m1) D → Q' v H1) :
    tR Γ W Rl ev σ H Q' := by
  refine ⟨env, m, loc, a, ?_⟩
  cases e : ev env m with
  | ok d m1 =>
    rw [e] at p
    exact fun v H1 l1 s1 k1 r1 => h v H1 d m1 l1 e (a.go s1 k1) k1 r1 (PoS.later p k1)
  | exc x m1 =>
    rw [e] at p
    exact fun H1 l1 s1 k1 cls d hx => p σ H1 l1 s1 k1 (a.2.mono k1) cls d hx
  | stuck =>
    rw [e] at p
    exact p
end
section
variable {X : Cx} {Γ : Gam} {C : Call} {G : Nat → Option D} {a b c e o : Expr} {es : List Expr} {ea eb ec ev eo : Env → MH → R D} {pos p apos : Pos} {x : Str} {st : Stmt} {rest : List Stmt} {ex exs : Env → MH → Mi.X}
theorem sss_nil : SSs Γ X [] (fun env m => some (.nx env, m)) := fun W tk => wkSs pss_nil fun D σ H ⟨env, m, loc, A, p⟩ => p σ H loc A.1 (Kp.refl _ _ _) A.2
theorem sss_cons (h1 : SS Γ X st ex) (h2 : SSs Γ X rest exs) : SSs Γ X (st :: rest) (fun env m => match ex env m with
    | some (.nx env, m) => exs env m
    | r => r) := fun W tk => wkSs (pss_cons (h1 W tk) (h2 W tk)) fun D σ H ⟨env, m, loc, A, p⟩ => by
  refine ⟨env, m, loc, A, ?_⟩
  dsimp only at p
  cases e : ex env m with
  | none =>
    rw [e] at p
    exact p
  | some q =>
    obtain ⟨f, m1⟩ := q
    rw [e] at p
    cases f with
    | nx env1 => exact fun σ1 H1 l1 s1 k1 r1 => ⟨env1, m1, l1, ⟨s1, r1⟩, PoS.later p k1⟩
    | bk _ => exact p
    | ct _ => exact p
    | rt _ => exact p
    | ex _ _ => exact p
theorem ss_asg {t : Expr} {tg : Tg} (hN : X.N.Nodup) (hc : X.calm = true) (hK : X.K = Γ.K) (hg : TgOk X t tg) (ha : SE Γ X e ev) (hs : swapsWithSole [t] e pos.line X.env = pure false) (hw : swappedStores [t] e X.env = pure none)
    (h1 : (assignEach [t] X.env).map (·.2) = [assign t X.env]) : SS Γ X (.Assign [t] e pos) (fun env m => (ev env m).at env fun d m => match setT tg d env with
    | some env' => some (.nx env', m)
    | none => none) := fun W tk => wkS (ps_asg (ha W tk) (hg.pg hN hc) hs hw h1) fun D σ H ⟨env, m, loc, A, p⟩ => subS A p fun v H1 d m1 loc1 _ A1 k1 r1 p1 => by
  cases q : setT tg d env with
  | none =>
    rw [q] at p1
    exact (show False from p1).elim
  | some env' =>
    rw [q] at p1
    exact hK ▸ g_run r1 A1.2 q fun σ' e' _ => p1 σ' H1 loc1 A1.1 (Kp.refl _ _ _) e'
theorem ss_ret (ha : SE Γ X e ev) : SS Γ X (.Return (some e) pos) (fun env m => (ev env m).at env fun d m => some (.rt d, m)) := fun W tk => wkS (ps_ret (ha W tk)) fun D σ H ⟨env, m, loc, A, p⟩ => subS A p fun v H1 d m1 loc1 _ A1 k1 r1 p1 => p1 v H1 loc1 A1.1 (Kp.refl _ _ _) r1
theorem ss_exp (ha : SE Γ X e ev) (hs : swapsWith e none pos.line X.env = pure false) : SS Γ X (.Expr e pos) (fun env m => (ev env m).at env fun _ m => some (.nx env, m)) := fun W tk => wkS (ps_expr (ha W tk) hs) fun D σ H ⟨env, m, loc, A, p⟩ => subS A p fun v H1 d m1 loc1 _ A1 k1 r1 p1 => p1 σ H1 loc1 A1.1 (Kp.refl _ _ _) A1.2
theorem ss_if {et : Env → MH → R Bool} {u v : List Stmt} {eu ew : Env → MH → Mi.X} (ht : ST Γ X c et) (hu : SSs Γ X u eu) (hv : SSs Γ X v ew) : SS Γ X (.If c u v pos) (fun env m => (et env m).at env fun k m => match k with
    | true => eu env m
    | false => ew env m) := fun W tk => wkS (ps_if (ht W tk) (hu W tk) (hv W tk)) fun D σ H ⟨env, m, loc, A, p⟩ => subS A p fun k H1 d m1 loc1 _ A1 k1 r1 p1 => by
  have q : k = d := r1
  subst q
  cases k with
  | true => exact ⟨env, m1, loc1, A1, p1⟩
  | false => exact ⟨env, m1, loc1, A1, p1⟩
theorem ss_brk : SS Γ X (.Break pos) (fun env m => some (.bk env, m)) := fun W tk => wkS ps_break fun D σ H ⟨env, m, loc, A, p⟩ => p σ H loc A.1 (Kp.refl _ _ _) A.2
theorem ss_cnt : SS Γ X (.Continue pos) (fun env m => some (.ct env, m)) := fun W tk => wkS ps_continue fun D σ H ⟨env, m, loc, A, p⟩ => p σ H loc A.1 (Kp.refl _ _ _) A.2
end
end Mi
/-! Mini: zip of two sequences, each a list or a tuple. -/
namespace Mi
open PySem PySem.Spec PyProof.Rows L2
/-- true: a list, false: a tuple -/
def sqI : Bool → Heap → Addr → Array Value → Prop
  | true, h, a, its => h.IsList a its
  | false, h, a, its => h.IsTuple a its
def itI : Bool → Heap → Addr → Addr → Nat → Prop
  | true, h, i, a, n => h.IsListIter i a n
  | false, h, i, a, n => h.IsTupleIter i a n
def SqK : Bool → PySem.W.Frag → Hp → Addr → List V → Prop
  | true, K, H, a, xs => SqL K H a xs
  | false, K, H, a, xs => SqT K H a xs
def itN : Bool → String
  | true => "list_iterator"
  | false => "tuple_iterator"
theorem itI.live {k : Bool} {h : Heap} {i a : Addr} {n : Nat} (x : itI k h i a n) : ∃ o, h.get? i = some o ∧ o.data = .fields #[.ref a, .int n 0] := by
  cases k <;> (obtain ⟨o, e, _, d⟩ := x; exact ⟨o, e, d⟩)
theorem itI.hold {k : Bool} {h h' : Heap} {i a : Addr} {n : Nat} (x : itI k h i a n) (w : ∀ o, h.get? i = some o → h'.get? i = some o) : itI k h' i a n := by
  cases k <;> (obtain ⟨o, e, c, d⟩ := x; exact ⟨o, w o e, c, d⟩)
theorem SqK.its {k : Bool} {X : Cx} {pins : List (Addr × Obj)} {σ : L2.St} {H : Hp} {s : Shared} {a : Addr} {xs : List V} (I : Inv X pins σ H s) (h : SqK k X.K H a xs) : ∃ its : List Value, Vals xs its ∧ sqI k s.heap a its.toArray := by
  cases k with
  | true => obtain ⟨its, r, p, _⟩ := I.list h; exact ⟨its, r, p.isList⟩
  | false => obtain ⟨its, r, p, _⟩ := I.tuple h; exact ⟨its, r, p⟩
theorem SqK.one {k : Bool} {X : Cx} {pins : List (Addr × Obj)} {σ : L2.St} {H : Hp} {s : Shared} {a : Addr} {xs ys : List V} (I : Inv X pins σ H s) (h : SqK k X.K H a xs) (h2 : SqK k X.K H a ys) : xs = ys := by
  cases k with
  | true => exact I.list_inj h h2
  | false => exact I.tuple_inj h h2
theorem sqI.lt {k : Bool} {h : Heap} {a : Addr} {its : Array Value} (x : sqI k h a its) : a < h.objs.size := by
  cases k <;> (obtain ⟨o, e, _⟩ := x; exact Heap.lt_size e)
theorem drawsK {k : Bool} {prog : Program} {w : World} {A : Around} (hh : A.handled = none) (it l : Addr) (hne : l ≠ it) (items : Array Value) :
    Draws prog w A it [it, l] items.size (fun i v => items[i]? = some v) (fun i h => itI k h it l i ∧ sqI k h l items) := by
  cases k with
  | true => exact Draws.list hh it l hne items
  | false => exact Draws.tuple hh it l hne items
/-- the two sequences as they stand at each turn, the items in new pairs -/
def ItzK (k1 k2 : Bool) (K : PySem.W.Frag) (a b : Addr) : It :=
  ⟨fun i H => ∃ xs ys x y, SqK k1 K H a xs ∧ SqK k2 K H b ys ∧ xs[i]? = some x ∧ ys[i]? = some y,
    fun i H v H' => ∃ T x y, v = V.ref T ∧ H T = none ∧ H' = upd H T (HO.tup [x, y]) ∧ (∀ l, SqK k1 K H a l → l[i]? = some x) ∧ ∀ l, SqK k2 K H b l → l[i]? = some y,
    fun i H => ∃ xs ys, SqK k1 K H a xs ∧ SqK k2 K H b ys ∧ List.length xs = i ∧ List.length ys = i⟩
theorem sepOf {z TI TO i1 i2 a b : Addr} (D : ZipApart z TI TO i1 i2 a b) : ZipSep2 z TI TO i1 i2 [i1, a] [i2, b] :=
  ⟨D.TIz, D.TOz, D.TITO, D.TIi1, by simp, by simp [D.i1z.symm, D.l1z.symm], by simp [D.TOi1, D.l1TO.symm], D.TIi2, by simp, by simp [D.i2z.symm, D.l2z.symm], by simp [D.TOi2, D.l2TO.symm], by simp [D.i12, D.l2i1.symm], by simp [D.i12.symm, D.l1i2.symm]⟩
theorem turn_zipK {k1 k2 : Bool} {P : Program} {w : World} {K : PySem.W.Frag} {elts : List Expr} {kk : Nat} {tpos : Pos} {a b z TI TO i1 i2 : Addr} (D : ZipApart z TI TO i1 i2 a b) :
    Turn P w K (.Tuple elts kk tpos) (ItzK k1 k2 K a b) [z, TI, TO, i1, i2] z (fun i h => (IsZip h z TI TO .none ∧ IsPair h TI (.ref i1) (.ref i2) ∧ (∃ x y, IsPair h TO x y)) ∧ itI k1 h i1 a i ∧ itI k2 h i2 b i) where
  mem := List.mem_cons_self
  obj := fun i h ⟨⟨hz, hTI, _, _, hTO⟩, h1, h2⟩ c hc => by
    simp only [List.mem_cons, List.not_mem_nil, or_false] at hc
    rcases hc with rfl | rfl | rfl | rfl | rfl
    · exact ⟨_, hz, fun _ q => nomatch q⟩
    · exact ⟨_, hTI, fun _ q => nomatch q⟩
    · exact ⟨_, hTO, fun _ q => nomatch q⟩
    · obtain ⟨o, e, d⟩ := h1.live; exact ⟨o, e, fun _ q => by rw [d] at q; cases q⟩
    · obtain ⟨o, e, d⟩ := h2.live; exact ⟨o, e, fun _ q => by rw [d] at q; cases q⟩
  keep := fun i h h' ⟨⟨hz, hTI, x, y, hTO⟩, h1, h2⟩ k => ⟨⟨k z (by simp) _ hz, k TI (by simp) _ hTI, x, y, k TO (by simp) _ hTO⟩, h1.hold (k i1 (by simp)), h2.hold (k i2 (by simp))⟩
  item := fun X hP hw hK hc i pins s σ H E I hf ⟨⟨hz, hTI, x0, y0, hTO⟩, h1, h2⟩ ⟨xs, ys, x, y, qx, qy, hx, hy⟩ => by
    subst hP hw hK
    obtain ⟨us, rv, p⟩ := qx.its I
    obtain ⟨us2, rv2, p2⟩ := qy.its I
    obtain ⟨u, hu, ru⟩ := rv.get hx
    obtain ⟨u2, hu2, ru2⟩ := rv2.get hy
    have ha : X.A.in1.handled = none := I.ok.hd hc
    have n1 : i < us.toArray.size := by have := (List.getElem?_eq_some_iff.mp hu).1; simpa using this
    have n2 : i < us2.toArray.size := by have := (List.getElem?_eq_some_iff.mp hu2).1; simpa using this
    refine wpAny_pyNext_zipD2_item (sepOf D) (drawsK ha i1 a D.l1i1 us.toArray) (drawsK ha i2 b D.l2i2 us2.toArray) hz hTI hTO ⟨h1, p⟩ ⟨h2, p2⟩ n1 n2 fun v1 v2 h' tk g1 g2 z' TO' s1 s2 hT hsz hk => ?_
    obtain rfl : u = v1 := by
      have g1 : us.toArray[i]? = some v1 := g1
      rw [List.getElem?_toArray, hu] at g1
      exact Option.some.inj g1
    obtain rfl : u2 = v2 := by
      have g2 : us2.toArray[i]? = some v2 := g2
      rw [List.getElem?_toArray, hu2] at g2
      exact Option.some.inj g2
    have zl : z < s.heap.objs.size := Heap.lt_size hz
    refine ⟨_, rfl, wpAny_letOwnedTupleGo_zip (s := { s with heap := h', toks := tk }) z' fun h2' z2' sb => ?_⟩
    have up : ∀ c o, c ≠ z → h'.get? c = some o → h2'.get? c = some o := fun c o n e => (sb.2 c n).trans e
    have hT2 := up _ _ (Nat.ne_of_gt zl) hT
    refine ⟨.ref s.heap.objs.size, _, I.turnedNew (t' := tk) (ch := [z, TI, TO, i1, i2]) (ob := .tup [x, y]) (fun c o nb e => ?_) hf (Nat.le_refl _) ⟨by show 2 ≤ sizeLine; decide, [u, u2], .cons ru (.cons ru2 .nil), ⟨_, hT2, rfl, _, rfl⟩⟩, rfl, ⟨_, x, y, rfl, I.hok.fresh (Nat.le_refl _), rfl, fun l q => by rw [q.one I qx]; exact hx, fun l q => by rw [q.one I qy]; exact hy⟩, ⟨⟨z2', up _ _ D.TIz (hk _ _ D.TIz D.TITO D.TIi1 D.TIi2 hTI), u, u2, up _ _ D.TOz TO'⟩, s1.1.hold fun o => up _ o D.i1z, s2.1.hold fun o => up _ o D.i2z⟩, fun c hc => ?_⟩
    · simp only [List.mem_cons, List.not_mem_nil, or_false, not_or] at nb
      exact up c o nb.1 (hk c o nb.1 nb.2.2.1 nb.2.2.2.1 nb.2.2.2.2 e)
    · have hn := (hf c hc).1
      have hl : c < s.heap.objs.size := by
        simp only [List.mem_cons, List.not_mem_nil, or_false] at hc
        rcases hc with rfl | rfl | rfl | rfl | rfl
        · exact zl
        · exact Heap.lt_size hTI
        · exact Heap.lt_size hTO
        · obtain ⟨_, e, _⟩ := h1.live; exact Heap.lt_size e
        · obtain ⟨_, e, _⟩ := h2.live; exact Heap.lt_size e
      rw [upd_ne (Nat.ne_of_lt hl)]
      exact hn
  done := fun X hP hw hK hc i pins s σ H E I hf ⟨⟨hz, hTI, x0, y0, hTO⟩, h1, h2⟩ ⟨xs, ys, qx, qy, e1, e2⟩ => by
    subst hP hw hK
    obtain ⟨us, rv, p⟩ := qx.its I
    obtain ⟨us2, rv2, p2⟩ := qy.its I
    have l1 : us.toArray.size = i := by have := rv.length; simp; omega
    have l2 : us2.toArray.size = i := by have := rv2.length; simp; omega
    have ha : X.A.in1.handled = none := I.ok.hd hc
    have d1 := drawsK (k := k1) (prog := X.prog) (w := X.w) ha i1 a D.l1i1 us.toArray
    have d2 := drawsK (k := k2) (prog := X.prog) (w := X.w) ha i2 b D.l2i2 us2.toArray
    refine wpAny_pyNext_zipD2_end (i := i) (sepOf D) d1 d2 hz hTI hTO ⟨h1, p⟩ ⟨h2, p2⟩ (by omega) (by omega) (.inl l1.symm) fun h' tk hk => ⟨rfl, I.turnedL (t' := tk) (ch := [z, TI, TO, i1, i2]) (fun c o nb e => ?_) hf⟩
    simp only [List.mem_cons, List.not_mem_nil, or_false, not_or] at nb
    exact hk c o nb.1 nb.2.2.1 nb.2.2.2.1 nb.2.2.2.2 e
  self := fun A i s Q E st h => wpAny_pyIter_zip st.1.1 h
/-! the call -/
abbrev zk1 (k : Bool) (h : Heap) (a : Addr) : Heap := h.push { cls := .type (itN k), data := .fields #[.ref a, .int 0 0] }
abbrev zk2 (k1 k2 : Bool) (h : Heap) (a b : Addr) : Heap := zk1 k2 (zk1 k1 h a) b
abbrev zk3 (k1 k2 : Bool) (h : Heap) (a b : Addr) : Heap := (zk2 k1 k2 h a b).push { cls := .type "tuple", data := .seq #[.ref h.objs.size, .ref (zk1 k1 h a).objs.size] }
abbrev zk4 (k1 k2 : Bool) (h : Heap) (a b : Addr) : Heap := (zk3 k1 k2 h a b).push { cls := .type "tuple", data := .seq #[.none, .none] }
abbrev zk5 (k1 k2 : Bool) (h : Heap) (a b : Addr) : Heap := (zk4 k1 k2 h a b).push { cls := .type "zip", data := .fields #[.none, .bool false, .bool false, .ref (zk2 k1 k2 h a b).objs.size, .ref (zk3 k1 k2 h a b).objs.size] }
theorem newK (k1 k2 : Bool) (a b : Addr) (xs ys : Array Value) :
    Meets (Builtin.«zip.__new__» ⟨[.type "zip", .ref a, .ref b], []⟩) (fun _ R s => sqI k1 s.heap a xs ∧ sqI k2 s.heap b ys ∧
      R (.ok (.ret (.ref (zk4 k1 k2 s.heap a b).objs.size))) { s with heap := zk5 k1 k2 s.heap a b }) :=
  .of_wp fun prog w A R s ⟨q1, q2, h⟩ => by
    obtain ⟨hp, g, d, tk, os⟩ := s
    have hsub := sub_zip
    cases k1 <;> cases k2
    · have w1 : Heap.IsTuple (Shared.heap ⟨hp, g, d, tk, os⟩) a xs := q1
      have w2 : Heap.IsTuple (Shared.heap ⟨hp.push { cls := .type "tuple_iterator", data := .fields #[.ref a, .int 0 0] }, g, d, tk, os⟩) b ys := Heap.IsTuple.push q2 _
      wp_walk using wpAny_pyIter_tuple w1, wpAny_pyIter_tuple w2
      exact ⟨_, rfl, h⟩
    · have w1 : Heap.IsTuple (Shared.heap ⟨hp, g, d, tk, os⟩) a xs := q1
      have w2 : Heap.IsList (Shared.heap ⟨hp.push { cls := .type "tuple_iterator", data := .fields #[.ref a, .int 0 0] }, g, d, tk, os⟩) b ys := Heap.IsList.push q2 _
      wp_walk using wpAny_pyIter_tuple w1, wpAny_pyIter_list w2
      exact ⟨_, rfl, h⟩
    · have w1 : Heap.IsList (Shared.heap ⟨hp, g, d, tk, os⟩) a xs := q1
      have w2 : Heap.IsTuple (Shared.heap ⟨hp.push { cls := .type "list_iterator", data := .fields #[.ref a, .int 0 0] }, g, d, tk, os⟩) b ys := Heap.IsTuple.push q2 _
      wp_walk using wpAny_pyIter_list w1, wpAny_pyIter_tuple w2
      exact ⟨_, rfl, h⟩
    · have w1 : Heap.IsList (Shared.heap ⟨hp, g, d, tk, os⟩) a xs := q1
      have w2 : Heap.IsList (Shared.heap ⟨hp.push { cls := .type "list_iterator", data := .fields #[.ref a, .int 0 0] }, g, d, tk, os⟩) b ys := Heap.IsList.push q2 _
      wp_walk using wpAny_pyIter_list w1, wpAny_pyIter_list w2
      exact ⟨_, rfl, h⟩
theorem itK {k : Bool} {h : Heap} {i a : Addr} (e : h.get? i = some { cls := .type (itN k), data := .fields #[.ref a, .int 0 0] }) : itI k h i a 0 := by
  cases k <;> exact ⟨_, e, rfl, rfl⟩
theorem callK {prog : Program} {w : World} {A : Around} {E : Value → Shared → Prop} {s : Shared} {k1 k2 : Bool} {a b : Addr} {xs ys : Array Value} {Q : Value → Shared → Prop} (q1 : sqI k1 s.heap a xs) (q2 : sqI k2 s.heap b ys)
    (h : ∀ h' I, I = s.heap.objs.size → (IsZip h' (I + 4) (I + 2) (I + 3) .none ∧ IsPair h' (I + 2) (.ref I) (.ref (I + 1)) ∧ ∃ x y, IsPair h' (I + 3) x y) ∧ itI k1 h' I a 0 ∧ itI k2 h' (I + 1) b 0 → (∀ c o, s.heap.get? c = some o → h'.get? c = some o) → Q (.ref (I + 4)) { s with heap := h' }) :
    wpAny (model prog w) A (call (.type "zip") [.ref a, .ref b]) Q E s := by
  refine callType_new F.called_zip (by decide) (F.typeCall_zip_2 _ _) (F.newCall_zip_2 _ _) (fun obj => F.args_object_init_3 obj _ _) F.entry_zip_new (newK k1 k2 a b xs ys) ⟨q1, q2, ?_⟩
  have z1 : (zk1 k1 s.heap a).objs.size = s.heap.objs.size + 1 := Heap.size_push ..
  have z2 : (zk2 k1 k2 s.heap a b).objs.size = s.heap.objs.size + 2 := (Heap.size_push ..).trans (by rw [z1])
  have z3 : (zk3 k1 k2 s.heap a b).objs.size = s.heap.objs.size + 3 := (Heap.size_push ..).trans (by rw [z2])
  have z4 : (zk4 k1 k2 s.heap a b).objs.size = s.heap.objs.size + 4 := (Heap.size_push ..).trans (by rw [z3])
  have u4 : ∀ c o, (zk4 k1 k2 s.heap a b).get? c = some o → (zk5 k1 k2 s.heap a b).get? c = some o := fun c o e => Heap.get?_push_of_some _ e
  have u3 : ∀ c o, (zk3 k1 k2 s.heap a b).get? c = some o → (zk5 k1 k2 s.heap a b).get? c = some o := fun c o e => u4 c o (Heap.get?_push_of_some _ e)
  have u2 : ∀ c o, (zk2 k1 k2 s.heap a b).get? c = some o → (zk5 k1 k2 s.heap a b).get? c = some o := fun c o e => u3 c o (Heap.get?_push_of_some _ e)
  have u1 : ∀ c o, (zk1 k1 s.heap a).get? c = some o → (zk5 k1 k2 s.heap a b).get? c = some o := fun c o e => u2 c o (Heap.get?_push_of_some _ e)
  have g5 : (zk5 k1 k2 s.heap a b).get? (zk4 k1 k2 s.heap a b).objs.size = some _ := Heap.get?_push_size _ rfl
  have g4 : (zk5 k1 k2 s.heap a b).get? (zk3 k1 k2 s.heap a b).objs.size = some _ := u4 _ _ (Heap.get?_push_size _ rfl)
  have g3 : (zk5 k1 k2 s.heap a b).get? (zk2 k1 k2 s.heap a b).objs.size = some _ := u3 _ _ (Heap.get?_push_size _ rfl)
  have g2 : (zk5 k1 k2 s.heap a b).get? (zk1 k1 s.heap a).objs.size = some _ := u2 _ _ (Heap.get?_push_size _ rfl)
  have g1 : (zk5 k1 k2 s.heap a b).get? s.heap.objs.size = some _ := u1 _ _ (Heap.get?_push_size _ rfl)
  show _ ∧ _
  rw [z2, z3, z4] at g5
  rw [z1, z2] at g3
  rw [z3] at g4
  rw [z1] at g2
  rw [z4]
  exact ⟨⟨_, g5, rfl⟩, h _ _ rfl ⟨⟨g5, g3, _, _, g4⟩, itK g1, itK g2⟩ fun c o e => u1 c o (Heap.get?_push_of_some _ e)⟩
def iZipK (K : PySem.W.Frag) (ta : TA) : TI := fun σ H R => ta σ H fun vs H1 => ∃ k1 k2 a b xs ys, vs = [.ref a, .ref b] ∧ SqK k1 K H1 a xs ∧ SqK k2 K H1 b ys ∧ R (ItzK k1 k2 K a b) H1
theorem pi_zipK {X : Cx} {e e2 : Expr} {ta : TA} {p pos tpos : Pos} {elts : List Expr} {kk : Nat} (hg : Gl X "zip") (hm : X.mg "zip" = none) (ha : PA X [e, e2] ta)
    (hs : starEach [e, e2] X.env = (false, PySem.eval e X.env) :: starEach [e2] X.env := by rfl) (hpl : (backTo pos (starEach [e2] X.env)).any (·.1) = false := by rfl) :
    PI X (.Tuple elts kk tpos) (.Call (.Name "zip" p) [e, e2] [] pos) (iZipK X.K ta) := ⟨fun pins s σ H R I h => by
  refine Call_ (ld_blt I hg hm PyProof.Rows.boot_zip (PyProof.Rows.callWith_type1 (thn (ha.run pos pins s σ H _ I h) fun us s1 ⟨vs, H1, I1, r1, k1, k2, a, b, xs, ys, ex, qx, qy, q⟩ => ?_) hs hpl))
  subst ex
  cases r1 with
  | cons r rr =>
    cases rr with
    | cons r2 rr =>
      cases rr
      cases r
      cases r2
      obtain ⟨_, _, p1⟩ := qx.its I1
      obtain ⟨_, _, p2⟩ := qy.its I1
      refine callK p1 p2 fun h' N hN st hk => wpAny_pyIter_zip st.1.1 ?_
      have I2 : Inv X pins σ H1 { s1 with heap := h' } := I1.kept (t' := s1.toks) hk
      refine ⟨N + 4, [N + 4, N + 2, N + 3, N, N + 1], _, _, H1, rfl, I2, turn_zipK (PySem.W.ktu_apart N a b (hN ▸ p1.lt) (hN ▸ p2.lt)), st, fun c hc => ?_, q⟩
      have hl : s1.heap.objs.size ≤ c := by
        rw [← hN]
        simp only [List.mem_cons, List.not_mem_nil, or_false] at hc
        rcases hc with rfl | rfl | rfl | rfl | rfl
        · exact Nat.le_add_right _ _
        · exact Nat.le_add_right _ _
        · exact Nat.le_add_right _ _
        · exact Nat.le_refl _
        · exact Nat.le_add_right _ _
      exact I1.fpOk hl (I1.hok.fresh hl)⟩
end Mi
/-! Mini: iterators, loops, comprehensions. -/
namespace Mi
open PySem PySem.Spec PyProof.Rows L2
variable [Glb]
/-- the part of a step that frozen data sees -/
structure Kq (H : Hp) (m : MH) (loc : Loc) (H' : Hp) (m' : MH) (loc' : Loc) : Prop where
  pre : ∃ x, loc'.l = loc.l ++ x
  keep : ∀ a o, H a = some o → ¬ Live m loc a → H' a = some o ∧ ¬ Live m' loc' a
  fk : loc'.f.k = loc.f.k
theorem Kp.kq {H H' : Hp} {m m' : MH} {loc loc' : Loc} (k : KpM H m loc H' m' loc') : Kq H m loc H' m' loc' := ⟨k.pre, k.keep, by rw [k.fx]⟩
theorem Kq.refl (H : Hp) (m : MH) (loc : Loc) : Kq H m loc H m loc := ⟨⟨[], (List.append_nil _).symm⟩, fun _ _ h n => ⟨h, n⟩, rfl⟩
theorem Kq.trans {H H1 H2 : Hp} {m m1 m2 : MH} {l l1 l2 : Loc} (a : Kq H m l H1 m1 l1) (b : Kq H1 m1 l1 H2 m2 l2) : Kq H m l H2 m2 l2 := by
  obtain ⟨x, e⟩ := a.pre
  obtain ⟨y, e'⟩ := b.pre
  refine ⟨⟨x ++ y, by rw [e', e, List.append_assoc]⟩, fun c o h n => ?_, b.fk.trans a.fk⟩
  obtain ⟨h1, n1⟩ := a.keep c o h n
  exact b.keep c o h1 n1
theorem Kq.rd {H H' : Hp} {m m' : MH} {loc loc' : Loc} (k : Kq H m loc H' m' loc') {a : Addr} {u : HO} (h : Rd H a u) (n : ¬ Live m loc a) : Rd H' a u ∧ ¬ Live m' loc' a := by
  rcases h with h | ⟨o, h⟩
  · exact ⟨.inl (k.keep a _ h n).1, (k.keep a _ h n).2⟩
  · exact ⟨.inr ⟨o, (k.keep a _ h n).1⟩, (k.keep a _ h n).2⟩
section
variable {K : PySem.W.Frag} {H H' : Hp} {m m' : MH} {loc loc' : Loc}
mutual
theorem Rep.hop (k : Kq H m loc H' m' loc') : ∀ {v : V} {d : D}, Rep K H (Live m loc) loc v d → Rep K H' (Live m' loc') loc' v d
  | _, _, .non => .non
  | _, _, .bl b => .bl b
  | _, _, .int i => .int i
  | _, _, .str s => .str s
  | _, _, .tup h z r => .tup (h.imp (fun h => k.rd h.1 h.2) id) z (Reps.hop k r)
  | _, _, .lst h n z r => .lst (k.keep _ _ h n).1 (k.keep _ _ h n).2 z (Reps.hop k r)
  | _, _, .dic h n r => .dic (k.keep _ _ h n).1 (k.keep _ _ h n).2 (RepK.hop k r)
  | _, _, .scr h z => .scr (h.imp (fun h => k.rd h.1 h.2) id) z
  | _, _, .ref h => .ref (by
      obtain ⟨x, e⟩ := k.pre
      rw [e, List.getElem?_append_left (List.getElem?_eq_some_iff.mp h).1]
      exact h)
  | _, _, .cls h => .cls h
theorem Reps.hop (k : Kq H m loc H' m' loc') : ∀ {vs : List V} {ds : List D}, Reps K H (Live m loc) loc vs ds → Reps K H' (Live m' loc') loc' vs ds
  | _, _, .nil => .nil
  | _, _, .cons r t => .cons (Rep.hop k r) (Reps.hop k t)
theorem RepK.hop (k : Kq H m loc H' m' loc') : ∀ {vs : List (Key × V)} {ds : List (Key × D)}, RepK K H (Live m loc) loc vs ds → RepK K H' (Live m' loc') loc' vs ds
  | _, _, .nil => .nil
  | _, _, .cons r t => .cons (Rep.hop k r) (RepK.hop k t)
end
theorem EnvR.hop {σ : L2.St} {env : Env} (e : EnvR K H (Live m loc) loc σ env) (k : Kq H m loc H' m' loc') : EnvR K H' (Live m' loc') loc' σ env :=
  ⟨e.len, fun i d h => let ⟨v, h1, h2⟩ := e.at_ i d h; ⟨v, h1, h2.hop k⟩⟩
end
/-- J walks xs, from this state on -/
structure JW (K : PySem.W.Frag) (J : It) (xs : List D) (H : Hp) (m : MH) (loc : Loc) : Prop where
  lim : xs.length ≤ LIM
  stop : ∀ H' m' loc', Sim K H' m' loc' → Kq H m loc H' m' loc' → J.stop xs.length H'
  go : ∀ (i : Nat) (x : D), xs[i]? = some x → ∀ H' m' loc', Sim K H' m' loc' → Kq H m loc H' m' loc' → J.go i H'
  yld : ∀ (i : Nat) (x : D), xs[i]? = some x → ∀ H' m' loc', Sim K H' m' loc' → Kq H m loc H' m' loc' → ∀ v H2, J.yld i H' v H2 → Sim K H2 m' loc' ∧ KpM H' m' loc' H2 m' loc' ∧ RepM K H2 m' loc' v x
theorem JW.later {K : PySem.W.Frag} {J : It} {xs : List D} {H H' : Hp} {m m' : MH} {loc loc' : Loc} (j : JW K J xs H m loc) (k : KpM H m loc H' m' loc') : JW K J xs H' m' loc' :=
  ⟨j.lim, fun H2 m2 l2 s2 k2 => j.stop H2 m2 l2 s2 (k.kq.trans k2), fun i x h H2 m2 l2 s2 k2 => j.go i x h H2 m2 l2 s2 (k.kq.trans k2), fun i x h H2 m2 l2 s2 k2 => j.yld i x h H2 m2 l2 s2 (k.kq.trans k2)⟩
def rlJ (Γ : Gam) : Hp → MH → Loc → It → List D → Prop := fun H m loc J xs => JW Γ.K J xs H m loc
def SI (Γ : Gam) (X : Cx) (t iter : Expr) (ev : Env → MH → R (List D)) : Prop := ∀ W : WX, L2N.Takes X W → PI X t iter (tR Γ W (rlJ Γ) ev)
theorem wkI {X : Cx} {t e : Expr} {w w' : TI} (h : PI X t e w) (q : ∀ σ H R, w' σ H R → w σ H R) : PI X t e w' := ⟨fun pins s σ H R I hw => h.run pins s σ H R I (q σ H R hw)⟩
section
variable {K : PySem.W.Frag} {H : Hp} {m : MH} {loc : Loc}
theorem jw_seqL {a : Addr} {vs : List V} {xs : List D} (h : (Rd H a (.lst vs) ∧ ¬ Live m loc a) ∨ WrL K a vs) (r : Reps K H (Live m loc) loc vs xs) (z : vs.length ≤ LIM) : JW K (Itl K a) xs H m loc := by
  have keep : ∀ H' m' loc', Kq H m loc H' m' loc' → SqL K H' a vs := fun H' m' loc' k => h.imp (fun h => (k.rd h.1 h.2).1) id
  refine ⟨by rw [← r.length]; exact z, fun H' m' loc' s k => ⟨vs, keep H' m' loc' k, by rw [r.length]; exact Nat.le_refl _⟩, fun i x hx H' m' loc' s k => ?_, fun i x hx H' m' loc' s k v H2 y => ?_⟩
  · obtain ⟨v, h1, _⟩ := r.get hx
    exact ⟨vs, v, keep H' m' loc' k, h1⟩
  · obtain ⟨e, y⟩ := y
    subst e
    obtain ⟨w, h1, h2⟩ := r.get hx
    have h3 := y vs (keep H2 m' loc' k)
    rw [h1] at h3
    cases h3
    exact ⟨s, Kp.refl _ _ _, h2.hop k⟩
theorem jw_seqT {a : Addr} {vs : List V} {xs : List D} (h : (Rd H a (.tup vs) ∧ ¬ Live m loc a) ∨ WrT K a vs) (r : Reps K H (Live m loc) loc vs xs) (z : vs.length ≤ LIM) : JW K (Itt K a) xs H m loc := by
  have keep : ∀ H' m' loc', Kq H m loc H' m' loc' → SqT K H' a vs := fun H' m' loc' k => h.imp (fun h => (k.rd h.1 h.2).1) id
  refine ⟨by rw [← r.length]; exact z, fun H' m' loc' s k => ⟨vs, keep H' m' loc' k, by rw [r.length]; exact Nat.le_refl _⟩, fun i x hx H' m' loc' s k => ?_, fun i x hx H' m' loc' s k v H2 y => ?_⟩
  · obtain ⟨v, h1, _⟩ := r.get hx
    exact ⟨vs, v, keep H' m' loc' k, h1⟩
  · obtain ⟨e, y⟩ := y
    subst e
    obtain ⟨w, h1, h2⟩ := r.get hx
    have h3 := y vs (keep H2 m' loc' k)
    rw [h1] at h3
    cases h3
    exact ⟨s, Kp.refl _ _ _, h2.hop k⟩
theorem jw_rng {lo hi : Int} (z : (hi - lo).toNat ≤ LIM) : JW K (Itr lo (hi - lo).toNat) (rngD lo hi) H m loc := by
  have hl : (rngD lo hi).length = (hi - lo).toNat := by simp [rngD]
  refine ⟨by rw [hl]; exact z, fun H' m' loc' s k => ?_, fun i x hx H' m' loc' s k => ?_, fun i x hx H' m' loc' s k v H2 y => ?_⟩
  · show (hi - lo).toNat ≤ _
    rw [hl]
    exact Nat.le_refl _
  · show i < _
    have := (List.getElem?_eq_some_iff.mp hx).1
    rw [hl] at this
    exact this
  · obtain ⟨e, y⟩ := y
    subst e y
    have h1 : i < (hi - lo).toNat := by
      have := (List.getElem?_eq_some_iff.mp hx).1
      rw [hl] at this
      exact this
    unfold rngD at hx
    rw [List.getElem?_map, List.getElem?_range h1] at hx
    have hx : some (D.int (lo + (i : Nat))) = some x := hx
    cases hx
    exact ⟨s, Kp.refl _ _ _, .int _⟩
theorem zip_at : ∀ {xs ys : List D} {i : Nat} {x : D}, (zipD xs ys)[i]? = some x → ∃ a b, xs[i]? = some a ∧ ys[i]? = some b ∧ x = .tup [a, b]
  | [], _, _, _, h => by simp [zipD] at h
  | _ :: _, [], _, _, h => by simp [zipD] at h
  | a :: xs, b :: ys, 0, x, h => by
    simp [zipD] at h
    exact ⟨a, b, rfl, rfl, h.symm⟩
  | a :: xs, b :: ys, i + 1, x, h => by
    obtain ⟨c, d, h1, h2, h3⟩ := zip_at (xs := xs) (ys := ys) (i := i) (x := x) (by simpa [zipD] using h)
    exact ⟨c, d, by simpa using h1, by simpa using h2, h3⟩
theorem zipD_len : ∀ {xs ys : List D}, xs.length = ys.length → (zipD xs ys).length = xs.length
  | [], _, _ => by simp [zipD]
  | _ :: _, [], h => by cases h
  | a :: xs, b :: ys, h => by
    simp only [zipD, List.length_cons]
    rw [zipD_len (by simpa using h)]
theorem new_tup {H2 : Hp} {T : Addr} {vs : List V} {ds : List D} (s : Sim K H m loc) (hT : H T = none) (e : H2 = upd H T (.tup vs)) (r : Reps K H (Live m loc) loc vs ds) (z : vs.length ≤ LIM) : Sim K H2 m loc ∧ KpM H m loc H2 m loc ∧ RepM K H2 m loc (.ref T) (.tup ds) := by
  subst e
  exact ⟨s.new hT, kp_new hT s, .tup (.inl ⟨.inl upd_same, s.no hT⟩) z (r.mono (kp_new hT s))⟩
theorem jw_zipK {k1 k2 : Bool} {a b : Addr} {vs ws : List V} {xs ys : List D} (h1 : ∀ H' m' loc', Kq H m loc H' m' loc' → SqK k1 K H' a vs) (r1 : Reps K H (Live m loc) loc vs xs) (h2 : ∀ H' m' loc', Kq H m loc H' m' loc' → SqK k2 K H' b ws) (r2 : Reps K H (Live m loc) loc ws ys) (hl : xs.length = ys.length) (z : vs.length ≤ LIM) : JW K (ItzK k1 k2 K a b) (zipD xs ys) H m loc := by
  refine ⟨by rw [zipD_len hl, ← r1.length]; exact z, fun H' m' loc' s k => ⟨vs, ws, h1 _ _ _ k, h2 _ _ _ k, by rw [zipD_len hl, r1.length], by rw [zipD_len hl, r2.length, hl]⟩, fun i x hx H' m' loc' s k => ?_, fun i x hx H' m' loc' s k v H2 y => ?_⟩
  · obtain ⟨p, q, e1, e2, e3⟩ := zip_at hx
    obtain ⟨v, f1, _⟩ := r1.get e1
    obtain ⟨w, f2, _⟩ := r2.get e2
    exact ⟨vs, ws, v, w, h1 _ _ _ k, h2 _ _ _ k, f1, f2⟩
  · obtain ⟨T, v1, w1, e, hT, eH, g1, g2⟩ := y
    obtain ⟨p, q, e1, e2, e3⟩ := zip_at hx
    obtain ⟨v', f1, q1⟩ := r1.get e1
    obtain ⟨w', f2, q2⟩ := r2.get e2
    have g1 := g1 vs (h1 _ _ _ k)
    have g2 := g2 ws (h2 _ _ _ k)
    rw [f1] at g1
    rw [f2] at g2
    cases g1
    cases g2
    subst e e3
    exact new_tup s hT eH (.cons (q1.hop k) (.cons (q2.hop k) .nil)) (by show 2 ≤ LIM; decide)
/-- a list or a tuple -/
def sqD : Bool → List D → D
  | true, xs => .lst xs
  | false, xs => .tup xs
theorem seqK {k : Bool} {v : V} {xs : List D} (r : RepM K H m loc v (sqD k xs)) : ∃ a vs, v = .ref a ∧ (∀ H' m' loc', Kq H m loc H' m' loc' → SqK k K H' a vs) ∧ Reps K H (Live m loc) loc vs xs ∧ vs.length ≤ LIM := by
  cases k with
  | true => cases r with
    | lst h n z q => exact ⟨_, _, rfl, fun H' m' loc' k => SqL.of (k.keep _ _ h n).1, q, z⟩
  | false => cases r with
    | tup h z q => exact ⟨_, _, rfl, fun H' m' loc' k => h.imp (fun h => (k.rd h.1 h.2).1) id, q, z⟩
theorem zip_seq {d d2 : D} {xs : List D} (h : itemsD m .zip [d, d2] = some xs) : ∃ k1 k2 xs1 ys1, d = sqD k1 xs1 ∧ d2 = sqD k2 ys1 ∧ xs1.length = ys1.length ∧ xs = zipD xs1 ys1 := by
  have go : ∀ (k1 k2 : Bool) (xs1 ys1 : List D), (if xs1.length = ys1.length then some (zipD xs1 ys1) else none) = some xs → ∃ k1' k2' xs1' ys1', sqD k1 xs1 = sqD k1' xs1' ∧ sqD k2 ys1 = sqD k2' ys1' ∧ xs1'.length = ys1'.length ∧ xs = zipD xs1' ys1' := fun k1 k2 xs1 ys1 e => by
    split at e
    · rename_i hl
      exact ⟨k1, k2, xs1, ys1, rfl, rfl, hl, (Option.some.inj e).symm⟩
    · cases e
  cases d with
  | tup xs1 => cases d2 with
    | tup ys1 => exact go false false xs1 ys1 h
    | lst ys1 => exact go false true xs1 ys1 h
    | _ => cases h
  | lst xs1 => cases d2 with
    | tup ys1 => exact go true false xs1 ys1 h
    | lst ys1 => exact go true true xs1 ys1 h
    | _ => cases h
  | _ => cases d2 <;> cases h
theorem enum_at : ∀ {xs : List D} {n : Int} {i : Nat} {x : D}, (enumD n xs)[i]? = some x → ∃ a, xs[i]? = some a ∧ x = .tup [.int (n + i), a]
  | [], _, _, _, h => by simp [enumD] at h
  | a :: xs, n, 0, x, h => by
    simp [enumD] at h
    exact ⟨a, rfl, by rw [← h]; simp⟩
  | a :: xs, n, i + 1, x, h => by
    obtain ⟨c, h1, h2⟩ := enum_at (xs := xs) (n := n + 1) (i := i) (x := x) (by simpa [enumD] using h)
    refine ⟨c, by simpa using h1, ?_⟩
    rw [h2]
    have : n + 1 + (i : Int) = n + ((i + 1 : Nat) : Int) := by omega
    rw [this]
theorem enum_len : ∀ {xs : List D} {n : Int}, (enumD n xs).length = xs.length
  | [], _ => rfl
  | a :: xs, n => by
    simp only [enumD, List.length_cons]
    rw [enum_len]
theorem jw_enum {a : Addr} {vs : List V} {xs : List D} (h1 : H a = some (.lst vs)) (n1 : ¬ Live m loc a) (r1 : Reps K H (Live m loc) loc vs xs) (z : vs.length ≤ LIM) : JW K (Ite K a) (enumD 0 xs) H m loc := by
  refine ⟨by rw [enum_len, ← r1.length]; exact z, fun H' m' loc' s k => ⟨vs, SqL.of (k.keep _ _ h1 n1).1, by rw [enum_len, r1.length]; exact Nat.le_refl _⟩, fun i x hx H' m' loc' s k => ?_, fun i x hx H' m' loc' s k v H2 y => ?_⟩
  · obtain ⟨p, e1, e2⟩ := enum_at hx
    obtain ⟨v, f1, _⟩ := r1.get e1
    exact ⟨vs, v, SqL.of (k.keep _ _ h1 n1).1, f1⟩
  · obtain ⟨T, v1, e, hT, eH, g1⟩ := y
    obtain ⟨p, e1, e2⟩ := enum_at hx
    obtain ⟨v', f1, q1⟩ := r1.get e1
    have g1 := g1 vs (SqL.of (k.keep _ _ h1 n1).1)
    rw [f1] at g1
    cases g1
    subst e e2
    rw [Int.zero_add]
    exact new_tup s hT eH (.cons (.int _) (.cons (q1.hop k) .nil)) (by show 2 ≤ LIM; decide)
end
/-- a list's or a tuple's iterator -/
def iSeq (K : PySem.W.Frag) (tl : TE) : TI := fun σ H R => tl σ H fun x H1 => ∃ a, x = .ref a ∧ ((∃ xs, SqL K H1 a xs ∧ R (Itl K a) H1) ∨ ∃ xs, SqT K H1 a xs ∧ R (Itt K a) H1)
theorem pi_seq {X : Cx} {tg l : Expr} {tl : TE} (hl : PE X l tl) : PI X tg l (iSeq X.K tl) := by
  refine ⟨fun pins s σ H R I h => ?_⟩
  refine thn (hl.run pins s σ H _ I h) fun v s1 ⟨x, H1, I1, r1, q1⟩ => ?_
  obtain ⟨a, e, q⟩ := q1
  subst e
  cases r1
  rcases q with ⟨xs, hq, q⟩ | ⟨xs, hq, q⟩
  · obtain ⟨its, rv, p, hz⟩ := I1.list hq
    refine wpAny_pyIter_list p.isList ?_
    refine ⟨s1.heap.objs.size, [s1.heap.objs.size], _, _, H1, rfl, I1.kept (t' := s1.toks) fun b o e => Heap.get?_push_of_some _ e, turn_list a _, ⟨_, Heap.get?_push_size _ rfl, rfl, rfl⟩, fun b hb => ?_, q⟩
    have e : b = s1.heap.objs.size := by simpa using hb
    subst e
    exact I1.fpOk (Nat.le_refl _) (I1.hok.fresh (Nat.le_refl _))
  · obtain ⟨its, rv, p, hz⟩ := I1.tuple hq
    refine wpAny_pyIter_tuple (show s1.heap.IsTuple a its.toArray from p) ?_
    refine ⟨s1.heap.objs.size, [s1.heap.objs.size], _, _, H1, rfl, I1.kept (t' := s1.toks) fun b o e => Heap.get?_push_of_some _ e, turn_tuple a _, ⟨_, Heap.get?_push_size _ rfl, rfl, rfl⟩, fun b hb => ?_, q⟩
    have e : b = s1.heap.objs.size := by simpa using hb
    subst e
    exact I1.fpOk (Nat.le_refl _) (I1.hok.fresh (Nat.le_refl _))
section
variable {X : Cx} {Γ : Gam} {C : Call} {G : Nat → Option D} {a b c e o t : Expr} {es : List Expr} {pos p apos : Pos} {x : Str}
def itE (G : Nat → Option D) (C : Call) (k : IK) (ms : List E) : Env → MH → R (List D) := fun env m => (evals G C ms env m).bind fun ds m => ofO (itemsD m k ds) m
theorem evals_one {e0 : E} {env : Env} {m : MH} {β : Type} {k : List D → MH → R β} : ((evals G C [e0] env m).bind k) = (eval G C e0 env m).bind fun d m => k [d] m := by
  show (((eval G C e0 env m).bind fun d m => (R.ok [] m).bind fun ds m => .ok (d :: ds) m).bind k) = _
  cases eval G C e0 env m <;> rfl
theorem si_seq {e0 : E} (hK : X.K = Γ.K) (ha : SE Γ X e (eval G C e0)) : SI Γ X t e (itE G C .seq [e0]) := fun W tk => wkI (pi_seq (ha W tk)) fun σ H Rr ⟨env, m, loc, A, p⟩ => by
  unfold itE at p
  rw [evals_one] at p
  refine sub A p fun v H1 d m1 loc1 _ A1 k1 r1 p1 => ?_
  obtain ⟨xs, e1, p2⟩ := p1.ofO
  have e1 : seqM m1 d = some xs := e1
  rw [hK]
  cases r1 with
  | tup h z r =>
    cases e1
    exact ⟨_, rfl, .inr ⟨_, tupS h, p2.ret A1.1 (jw_seqT h r z)⟩⟩
  | lst h n z r =>
    cases e1
    exact ⟨_, rfl, .inl ⟨_, SqL.of h, p2.ret A1.1 (jw_seqL (.inl ⟨.inl h, n⟩) r z)⟩⟩
  | scr h z =>
    cases e1
    exact ⟨_, rfl, .inl ⟨_, scrS h, p2.ret A1.1 (jw_seqL h (Reps.ints _) (by rw [List.length_map]; exact z))⟩⟩
  | _ => cases e1
theorem okR_iff {i : Int} (h : okR i = true) : -(2 ^ 62) ≤ i ∧ i < 2 ^ 62 := by
  obtain ⟨h1, h2⟩ := Bool.and_eq_true_iff.mp h
  exact ⟨of_decide_eq_true h1, of_decide_eq_true h2⟩
structure RngN (X : Cx) (x : Str) : Prop where
  gl : Gl X x
  mg : X.mg x = none
theorem si_rng1 {e0 : E} (n : RngN X "range") (hp : plainE e = true) (ha : SE Γ X e (eval G C e0)) : SI Γ X t (.Call (.Name "range" p) [e] [] pos) (itE G C .rng1 [e0]) := fun W tk => wkI (pi_range1 n.gl n.mg (pa_cons (ha W tk) pa_nil (starEach_cons hp)) (starEach_cons hp)) fun σ H Rr ⟨env, m, loc, A, p⟩ => by
  unfold itE at p
  rw [evals_one] at p
  refine sub A p fun v H1 d m1 loc1 _ A1 k1 r1 p1 => ?_
  obtain ⟨xs, e1, p2⟩ := p1.ofO
  cases d with
  | int j =>
    cases r1
    have e1 : (if (okR j && decide (j ≤ 16777216)) = true then some (rngD 0 j) else none) = some xs := e1
    split at e1
    · rename_i h
      cases e1
      obtain ⟨h1, h2⟩ := okR_iff (Bool.and_eq_true_iff.mp h).1
      have hz : j ≤ 16777216 := of_decide_eq_true (Bool.and_eq_true_iff.mp h).2
      refine ⟨j, rfl, h1, h2, ?_⟩
      have := p2.ret A1.1 (jw_rng (lo := 0) (hi := j) (by unfold LIM; omega))
      rw [Int.sub_zero] at this
      exact this
    · cases e1
  | _ => cases e1
theorem evals_two {e0 e1 : E} {env : Env} {m : MH} {β : Type} {k : List D → MH → R β} : ((evals G C [e0, e1] env m).bind k) = (eval G C e0 env m).bind fun d m => (eval G C e1 env m).bind fun e m => k [d, e] m := by
  show (((eval G C e0 env m).bind fun d m => ((eval G C e1 env m).bind fun d m => (R.ok [] m).bind fun ds m => .ok (d :: ds) m).bind fun ds m => .ok (d :: ds) m).bind k) = _
  cases eval G C e0 env m with
  | ok d m1 =>
    show (((eval G C e1 env m1).bind _).bind _).bind k = (eval G C e1 env m1).bind _
    cases eval G C e1 env m1 <;> rfl
  | exc x m1 => rfl
  | stuck => rfl
theorem si_rng2 {e0 e1 : E} (n : RngN X "range") (hp : plainE e = true) (hq : plainE a = true) (ha : SE Γ X e (eval G C e0)) (hb : SE Γ X a (eval G C e1)) : SI Γ X t (.Call (.Name "range" p) [e, a] [] pos) (itE G C .rng2 [e0, e1]) := fun W tk =>
  wkI (pi_range2 n.gl n.mg (pa_cons (ha W tk) (pa_cons (hb W tk) pa_nil (starEach_cons hq)) (starEach_cons hp)) (by rw [starEach_cons hp, starEach_cons hq]; rfl) (starEach_cons hq)) fun σ H Rr ⟨env, m, loc, A, p⟩ => by
  unfold itE at p
  rw [evals_two] at p
  refine sub A p fun v H1 d m1 loc1 _ A1 k1 r1 p1 => sub A1 p1 fun v2 H2 d2 m2 loc2 _ A2 k2 r2 p2 => ?_
  obtain ⟨xs, e1, p3⟩ := p2.ofO
  cases d with
  | int i =>
    cases d2 with
    | int j =>
      cases r1
      cases r2
      have e1 : (if (okR i && okR j && decide (j - i ≤ 16777216)) = true then some (rngD i j) else none) = some xs := e1
      split at e1
      · rename_i h
        cases e1
        obtain ⟨h, hz⟩ := Bool.and_eq_true_iff.mp h
        have hz := of_decide_eq_true hz
        obtain ⟨g1, g2⟩ := Bool.and_eq_true_iff.mp h
        obtain ⟨h1, h2⟩ := okR_iff g1
        obtain ⟨h3, h4⟩ := okR_iff g2
        exact ⟨i, j, rfl, ⟨h1, h2, h3, h4⟩, p3.ret A2.1 (jw_rng (lo := i) (hi := j) (by unfold LIM; omega))⟩
      · cases e1
    | _ => cases e1
  | _ => cases e1
theorem si_zip {e0 e1 : E} {elts : List Expr} {kk : Nat} {tpos : Pos} (hK : X.K = Γ.K) (n : RngN X "zip") (hp : plainE e = true) (hq : plainE a = true) (ha : SE Γ X e (eval G C e0)) (hb : SE Γ X a (eval G C e1)) : SI Γ X (.Tuple elts kk tpos) (.Call (.Name "zip" p) [e, a] [] pos) (itE G C .zip [e0, e1]) := fun W tk =>
  wkI (pi_zipK n.gl n.mg (pa_cons (ha W tk) (pa_cons (hb W tk) pa_nil (starEach_cons hq)) (starEach_cons hp)) (starEach_cons hp) (by rw [starEach_cons hq]; rfl)) fun σ H Rr ⟨env, m, loc, A, p⟩ => by
  unfold itE at p
  rw [evals_two] at p
  refine sub A p fun v H1 d m1 loc1 _ A1 k1 r1 p1 => sub A1 p1 fun v2 H2 d2 m2 loc2 _ A2 k2 r2 p2 => ?_
  obtain ⟨xs, e1, p3⟩ := p2.ofO
  have r1 := r1.mono k2
  rw [hK]
  obtain ⟨c1, c2, xs1, ys1, rfl, rfl, hl, rfl⟩ := zip_seq e1
  obtain ⟨a1, vs, rfl, h1, q1, z1⟩ := seqK r1
  obtain ⟨a2, ws, rfl, h2, q2, z2⟩ := seqK r2
  exact ⟨c1, c2, a1, a2, vs, ws, rfl, h1 _ _ _ (Kq.refl _ _ _), h2 _ _ _ (Kq.refl _ _ _), p3.ret A2.1 (jw_zipK h1 q1 h2 q2 hl z1)⟩
theorem si_enum {e0 : E} {elts : List Expr} {kk : Nat} {tpos : Pos} (hK : X.K = Γ.K) (n : RngN X "enumerate") (hp : plainE e = true) (ha : SE Γ X e (eval G C e0)) : SI Γ X (.Tuple elts kk tpos) (.Call (.Name "enumerate" p) [e] [] pos) (itE G C .enum [e0]) := fun W tk =>
  wkI (pi_enum n.gl n.mg (pa_cons (ha W tk) pa_nil (starEach_cons hp)) (starEach_cons hp)) fun σ H Rr ⟨env, m, loc, A, p⟩ => by
  unfold itE at p
  rw [evals_one] at p
  refine sub A p fun v H1 d m1 loc1 _ A1 k1 r1 p1 => ?_
  obtain ⟨xs, e1, p2⟩ := p1.ofO
  rw [hK]
  cases d with
  | lst xs1 =>
    cases e1
    cases r1 with
    | lst h1 n1 z1 q1 => exact ⟨_, _, rfl, SqL.of h1, p2.ret A1.1 (jw_enum h1 n1 q1 z1)⟩
  | _ => cases e1
end
end Mi
/-! Mini: loops, comprehensions, stores. -/
namespace Mi
open PySem PySem.Spec PyProof.Rows L2
variable [Glb]
section
variable {X : Cx} {Γ : Gam} {C : Call} {G : Nat → Option D} {a b c e o t iter : Expr} {es : List Expr} {pos p apos : Pos} {x : Str} {body : List Stmt} {tg : Tg}
theorem drop_at {xs : List D} {i : Nat} {x : D} (h : xs[i]? = some x) : xs.drop i = x :: xs.drop (i + 1) := by
  obtain ⟨h1, h2⟩ := List.getElem?_eq_some_iff.mp h
  rw [List.drop_eq_getElem_cons h1, h2]
theorem fold_pure {iter : Expr} (h : plainE iter = true) {env : PySem.Env} : ∀ x, foldedSetIterable iter env x = pure x := by
  intro x
  cases iter <;> first | rfl | cases h
theorem ss_for {ev : Env → MH → R (List D)} {ex : Env → MH → Mi.X} (hp : PassesOwn (model X.prog X.w) X.A X.env X.xe) (hN : X.N.Nodup) (hc : X.calm = true) (hK : X.K = Γ.K) (hi : SI Γ X t iter ev) (hg : TgOk X t tg) (hb : SSs Γ X body ex) (hpl : plainE iter = true) :
    SS Γ X (.For t iter body [] pos) (fun env m => (ev env m).at env fun xs m => forRun tg ex xs env m) := fun W tk =>
  wkS (ps_for hp hc (hi W tk) (hg.pg hN hc) (hb W tk) (fold_pure hpl)) fun D σ H ⟨env, m, loc, A, p⟩ => by
  refine subS A p fun J H1 xs m1 loc1 _ A1 k1 r1 p1 => ?_
  have r1 : JW Γ.K J xs H1 m1 loc1 := r1
  refine ⟨fun i n σ H => n = xs.length - i ∧ i ≤ xs.length ∧ ∃ env m loc, At Γ σ H env m loc ∧ JW Γ.K J xs H m loc ∧ PoS Γ W H m loc (forRun tg ex (xs.drop i) env m) D, ⟨xs.length, by simp, Nat.zero_le _, env, m1, loc1, A1, r1, by rw [List.drop_zero]; exact p1⟩, ?_⟩
  rintro i n σ2 H2 ⟨rfl, hi2, env2, m2, loc2, A2, j2, p2⟩
  by_cases hlt : i < xs.length
  · have hx : xs[i]? = some xs[i] := List.getElem?_eq_getElem hlt
    rw [drop_at hx] at p2
    refine .inr ⟨j2.go i _ hx H2 m2 loc2 A2.1 (Kp.refl _ _ _).kq, fun σ H => ∃ env m loc, At Γ σ H env m loc ∧ JW Γ.K J xs H m loc ∧ PoS Γ W H m loc (forRun tg ex (xs.drop (i + 1)) env m) D, fun σ' H' h => ⟨xs.length - (i + 1), by omega, rfl, hlt, h⟩, fun v H3 y => ?_⟩
    obtain ⟨s3, k3, r3⟩ := j2.yld i _ hx H2 m2 loc2 A2.1 (Kp.refl _ _ _).kq v H3 y
    have p3 : PoS Γ W H2 m2 loc2 (match setT tg xs[i] env2 with
      | none => none
      | some env' => match ex env' m2 with
        | some (.nx e, m) => forRun tg ex (xs.drop (i + 1)) e m
        | some (.ct e, m) => forRun tg ex (xs.drop (i + 1)) e m
        | some (.bk e, m) => some (.nx e, m)
        | r => r) D := p2
    have p3 := p3.later k3
    cases q : setT tg xs[i] env2 with
    | none =>
      rw [q] at p3
      exact (show False from p3).elim
    | some env' =>
      rw [q] at p3
      dsimp only at p3
      rw [hK]
      refine g_run r3 (A2.2.mono k3) q fun σ' e' _ => ⟨env', m2, loc2, ⟨s3, e'⟩, ?_⟩
      cases z : ex env' m2 with
      | none =>
        rw [z] at p3
        exact p3
      | some f =>
        obtain ⟨f, m4⟩ := f
        rw [z] at p3
        cases f with
        | nx e4 => exact fun σ4 H4 l4 s4 k4 r4 => ⟨e4, m4, l4, ⟨s4, r4⟩, (j2.later k3).later k4, PoS.later p3 k4⟩
        | ct e4 => exact fun σ4 H4 l4 s4 k4 r4 => ⟨e4, m4, l4, ⟨s4, r4⟩, (j2.later k3).later k4, PoS.later p3 k4⟩
        | bk e4 => exact p3
        | rt d => exact p3
        | ex x e4 => exact p3
  · have e : i = xs.length := by omega
    subst e
    rw [List.drop_length] at p2
    exact .inl ⟨j2.stop H2 m2 loc2 A2.1 (Kp.refl _ _ _).kq, p2 σ2 H2 loc2 A2.1 (Kp.refl _ _ _) A2.2⟩
theorem ss_whl {et : Env → MH → R Bool} {ex : Env → MH → Mi.X} {n : Nat} (hp : PassesOwn (model X.prog X.w) X.A X.env X.xe) (hc : ST Γ X c et) (hb : SSs Γ X body ex) :
    SS Γ X (.While c body [] pos) (fun env m => whlRun et ex n env m) := fun W tk =>
  wkS (ps_while hp (hc W tk) (hb W tk)) fun D σ H ⟨env, m, loc, A, p⟩ => by
  refine ⟨fun n σ H => ∃ env m loc, At Γ σ H env m loc ∧ PoS Γ W H m loc (whlRun et ex n env m) D, ⟨n, env, m, loc, A, p⟩, ?_⟩
  rintro k σ2 H2 ⟨env2, m2, loc2, A2, p2⟩
  cases k with
  | zero => exact (show False from p2).elim
  | succ k =>
    have p2 : PoS Γ W H2 m2 loc2 ((et env2 m2).at env2 fun b m => match b with
      | false => some (.nx env2, m)
      | true => match ex env2 m with
        | some (.nx e, m) => whlRun et ex k e m
        | some (.ct e, m) => whlRun et ex k e m
        | some (.bk e, m) => some (.nx e, m)
        | r => r) D := p2
    refine subS A2 p2 fun b H3 d m3 loc3 _ A3 k3 r3 p3 => ?_
    have q : b = d := r3
    subst q
    cases b with
    | false =>
      rw [if_neg Bool.false_ne_true]
      exact p3 σ2 H3 loc3 A3.1 (Kp.refl _ _ _) A3.2
    | true =>
      rw [if_pos rfl]
      refine ⟨fun σ H => ∃ env m loc, At Γ σ H env m loc ∧ PoS Γ W H m loc (whlRun et ex k env m) D, fun σ' H' h => ⟨k, Nat.lt_succ_self _, h⟩, env2, m3, loc3, A3, ?_⟩
      dsimp only at p3
      cases z : ex env2 m3 with
      | none =>
        rw [z] at p3
        exact p3
      | some f =>
        obtain ⟨f, m4⟩ := f
        rw [z] at p3
        cases f with
        | nx e4 => exact fun σ4 H4 l4 s4 k4 r4 => ⟨e4, m4, l4, ⟨s4, r4⟩, PoS.later p3 k4⟩
        | ct e4 => exact fun σ4 H4 l4 s4 k4 r4 => ⟨e4, m4, l4, ⟨s4, r4⟩, PoS.later p3 k4⟩
        | bk e4 => exact p3
        | rt d => exact p3
        | ex x e4 => exact p3
/-! ### comprehensions -/
/-- one more hidden -/
def Loc.hide (loc : Loc) (q : Addr) : Loc := ⟨loc.l, { loc.f with z := fun a => loc.f.z a ∨ a = q }⟩
theorem hide_z {loc : Loc} {q a : Addr} : (loc.hide q).z a ↔ loc.z a ∨ a = q := by
  constructor
  · rintro ((h | h) | h)
    · exact .inl (.inl h)
    · exact .inr h
    · exact .inl (.inr h)
  · rintro ((h | h) | h)
    · exact .inl (.inl h)
    · exact .inr h
    · exact .inl (.inr h)
theorem live_hide {m : MH} {loc : Loc} {q a : Addr} : Live m (loc.hide q) a ↔ Live m loc a ∨ a = q := by
  constructor
  · rintro (h | h)
    · exact .inl (.inl h)
    · exact (hide_z.mp h).elim (fun h => .inl (.inr h)) .inr
  · rintro ((h | h) | h)
    · exact .inl h
    · exact .inr (hide_z.mpr (.inl h))
    · exact .inr (hide_z.mpr (.inr h))
section
variable {K : PySem.W.Frag} {H H' H1 : Hp} {m m' m1 : MH} {loc loc' loc1 : Loc} {q : Addr} {o1 : HO}
theorem CapR.hop {cl : List (Str × Addr)} {b : Bool} (k : Kq H m loc H' m' loc') (hl : loc'.l = loc.l) (hx : loc'.f.x = loc.f.x) : ∀ {ys : List Str} {ds : List D}, CapR K H (Live m loc) loc cl b ys ds → CapR K H' (Live m' loc') loc' cl b ys ds
  | [], [], _ => True.intro
  | [], _ :: _, h => h.elim
  | _ :: _, [], h => h.elim
  | y :: ys, d :: ds, ⟨⟨c, oc, u, v, h1, h2, h3, h4, h5, h6, h7⟩, t⟩ => ⟨⟨c, oc, u, v, h1, (k.keep _ _ h2 h3.1).1, ⟨(k.keep _ _ h2 h3.1).2, by rw [hl]; exact h3.2⟩, fun e => by rw [hx]; exact h4 e, h5, h6, h7.hop k⟩, CapR.hop k hl hx t⟩
theorem RepF.hop (k : Kq H m loc H' m' loc') : ∀ {vs : List (Str × V)} {ds : List (Str × D)}, RepF K H (Live m loc) loc vs ds → RepF K H' (Live m' loc') loc' vs ds
  | [], [], _ => True.intro
  | [], _ :: _, h => h.elim
  | _ :: _, [], h => h.elim
  | (_, _) :: vs, (_, _) :: ds, ⟨h1, h2, t⟩ => ⟨h1, h2.hop k, RepF.hop k t⟩
/-- all but the hidden is the same -/
structure FixE (a b : Loc) : Prop where
  x : a.f.x = b.f.x
  T : a.f.T = b.f.T
  t : a.f.t = b.f.t
  k : a.f.k = b.f.k
theorem Sim.hop (s : Sim K H m loc) (hl : loc'.l = loc.l) (hf : FixE loc' loc) (hT : ∀ p ∈ loc.f.T, LamX.TabS H' p.1 p.2) (hX : ∀ a, loc.f.x a → ∃ o, H' a = some (.frz o TT0)) (hhk : ∀ a, loc'.f.z a → ∃ xs, H' a = some (.lst xs)) (k : ∀ a o, H a = some o → ¬ Live m loc a → H' a = some o ∧ ¬ Live m loc' a) (hc : ∀ a ∈ loc.l, H' a = H a) (hz : ∀ a, loc'.z a → (∃ o, H' a = some o) ∧ a ∉ loc.l) : Sim K H' m loc' := by
  refine ⟨by rw [hl]; exact s.len, by rw [hl]; exact s.nd, fun a e => ?_, fun a z => (hz a z).1, fun a e z => (hz a z).2 (by rw [← hl]; exact e), by rw [hf.T]; exact hT, by rw [hf.x]; exact hX, ⟨hf.T.trans s.fi.T, hf.t.trans s.fi.t, hf.k.trans s.fi.k⟩, hhk, fun n c a e1 e2 => ?_⟩
  · rw [hl] at e
    obtain ⟨o, q⟩ := s.old a e
    exact ⟨o, by rw [hc a e]; exact q⟩
  · rw [hl] at e2
    have h := s.cell n c a e1 e2
    have ea := hc a (List.mem_of_getElem? e2)
    have k : Kq H m loc H' m loc' := ⟨⟨[], by rw [hl, List.append_nil]⟩, k, hf.k⟩
    cases c with
    | lst ds =>
      obtain ⟨vs, h, z, r⟩ := h
      exact ⟨vs, ea.trans h, z, r.hop k⟩
    | dic ds =>
      obtain ⟨vs, h, r⟩ := h
      exact ⟨vs, ea.trans h, r.hop k⟩
    | clo i ds b =>
      have h : CloR K H (Live m loc) loc a i ds b := h
      obtain ⟨lam, cl, pm, ctv, c', h1, h2, h3, h4, h5, h6, h7, h8, h9⟩ := h.ex
      exact CloR.mk ⟨lam, cl, pm, ctv, c', by rw [hf.t]; exact h1, ea.trans h2, (k.keep _ _ h3 h4).1, (k.keep _ _ h3 h4).2, h5, h6, h7, h8, h9.hop k hl hf.x⟩
    | ins n fs =>
      obtain ⟨C, dx, vs, h1, h2, r⟩ := h
      exact ⟨C, dx, vs, by rw [hf.k]; exact h1, ea.trans h2, r.hop k⟩
    | dead => exact True.intro
theorem hide_keep (h : H q = none) : ∀ a o, H a = some o → ¬ Live m loc a → upd H q o1 a = some o ∧ ¬ Live m (loc.hide q) a := fun a o e n =>
  ⟨by rw [upd_ne (ne_of_none e h)]; exact e, fun l => (live_hide.mp l).elim n (ne_of_none e h)⟩
theorem Sim.hidden {xs : List V} (s : Sim K H m loc) (h : H q = none) : Sim K (upd H q (.lst xs)) m (loc.hide q) := by
  refine s.hop rfl ⟨rfl, rfl, rfl, rfl⟩ (fun p hp => (s.tab p hp).ext (upd_new h)) (fun a x => let ⟨u, e⟩ := s.xs a x; ⟨u, upd_new h _ _ e⟩) (fun a z => z.elim (fun z => let ⟨u, e⟩ := s.hk a z; ⟨u, upd_new h _ _ e⟩) fun z => ⟨xs, by rw [z]; exact upd_same⟩) (hide_keep h) (fun a e => upd_ne (s.ne h e)) fun a z => ?_
  rcases hide_z.mp z with z | z
  · obtain ⟨o, e⟩ := s.hid a z
    exact ⟨⟨o, by rw [upd_ne (s.nz h z)]; exact e⟩, fun m => s.apart a m z⟩
  · rw [z]
    exact ⟨⟨_, upd_same⟩, fun m => s.ne h m rfl⟩
theorem kq_hidden (h : H q = none) : Kq H m loc (upd H q o1) m (loc.hide q) := ⟨⟨[], by show loc.l = _; rw [List.append_nil]⟩, hide_keep h, rfl⟩
theorem grow_keep (hz : loc.z q) : ∀ a o, H a = some o → ¬ Live m loc a → upd H q o1 a = some o ∧ ¬ Live m loc a := fun a o e n =>
  ⟨by rw [upd_ne (fun z => n (.inr (by rw [z]; exact hz)))]; exact e, n⟩
theorem kq_grow (hz : loc.z q) : Kq H m loc (upd H q o1) m loc := ⟨⟨[], by rw [List.append_nil]⟩, grow_keep hz, rfl⟩
theorem tab_lst {vs : List V} {b : Addr} {x : Str} (hq : H q = some (.lst vs)) (t : LamX.TabS H b x) : LamX.TabS (upd H q o1) b x := by
  obtain ⟨ps, e1, e2, e3⟩ := t
  exact tab_put (ne_of hq e1 (fun z => by cases z)) (fun φ z => by rw [hq] at z; cases z) ⟨ps, e1, e2, e3⟩
theorem Sim.grow {vs xs : List V} (s : Sim K H m loc) (hz : loc.z q) (hq : H q = some (.lst vs)) : Sim K (upd H q (.lst xs)) m loc := by
  refine s.hop rfl ⟨rfl, rfl, rfl, rfl⟩ (fun p hp => tab_lst hq (s.tab p hp)) (fun a x => let ⟨u, e⟩ := s.xs a x; ⟨u, by rw [upd_ne (ne_of e hq (fun z => by cases z))]; exact e⟩) (fun a z => by
    by_cases w : a = q
    · exact ⟨xs, by rw [w]; exact upd_same⟩
    · obtain ⟨u, e⟩ := s.hk a z
      exact ⟨u, by rw [upd_ne w]; exact e⟩) (grow_keep hz) (fun a e => upd_ne (fun z => s.apart a e (by rw [z]; exact hz))) fun a z => ?_
  refine ⟨?_, fun m => s.apart a m z⟩
  by_cases e : a = q
  · rw [e]
    exact ⟨_, upd_same⟩
  · obtain ⟨o, e1⟩ := s.hid a z
    exact ⟨o, by rw [upd_ne e]; exact e1⟩
theorem Sim.shown (s : Sim K H m (loc.hide q)) : Sim K H m loc :=
  s.hop rfl ⟨rfl, rfl, rfl, rfl⟩ s.tab s.xs (fun a z => s.hk a (.inl z)) (fun a o e n => ⟨e, fun l => n (live_hide.mpr (.inl l))⟩) (fun _ _ => rfl) fun a z => ⟨s.hid a (hide_z.mpr (.inl z)), fun m => s.apart a m (hide_z.mpr (.inl z))⟩
/-- behind the new list, in the open -/
theorem kp_first (s : Sim K H m loc) (h : H q = none) : KpM H m loc (upd H q o1) m loc := kp_new h s
theorem kp_in (k : KpM H1 m1 loc1 H m loc) (k' : KpM H m (loc.hide q) H' m' (loc'.hide q)) (hz : loc'.f = loc.f) (h : H1 q = none) : KpM H1 m1 loc1 H' m' loc' := by
  obtain ⟨x, e⟩ := k.pre
  obtain ⟨y, e'⟩ := k'.pre
  refine ⟨⟨x ++ y, ?_⟩, hz.trans k.fx, fun a z => ?_, fun a o e n => ?_, fun a e => ?_, fun a o e => ?_⟩
  · have e' : loc'.l = loc.l ++ y := e'
    rw [e', e, List.append_assoc]
  · exact (k'.hide a (.inl (by rw [k.fx]; exact z))).trans (k.hide a z)
  · obtain ⟨e1, n1⟩ := k.keep a o e n
    obtain ⟨e2, n2⟩ := k'.keep a o e1 fun l => (live_hide.mp l).elim n1 (ne_of_none e h)
    exact ⟨e2, fun l => n2 (live_hide.mpr (.inl l))⟩
  · rcases k'.new a e with e | e
    · exact k.new a e
    · exact .inr (k.back e)
  · obtain ⟨o', e1⟩ := k.there a o e
    exact k'.there a o' e1
theorem kp_grow (s1 : Sim K H1 m1 loc1) (k : KpM H1 m1 loc1 H m loc) (h : H1 q = none) : KpM H1 m1 loc1 (upd H q o1) m loc := by
  refine ⟨k.pre, k.fx, fun a z => ?_, fun a o e n => ?_, k.new, fun a o e => ?_⟩
  · rw [upd_ne (s1.nz h (.inl z))]
    exact k.hide a z
  · rw [upd_ne (ne_of_none e h)]
    exact k.keep a o e n
  · rw [upd_ne (ne_of_none e h)]
    exact k.there a o e
end
theorem wipe_wipe {σ : L2.St} {vs : List Nat} : wipe (wipe σ vs) vs = wipe σ vs := by
  refine List.ext_getElem? fun j => ?_
  by_cases q : j ∈ vs
  · rw [wipe_in q, wipe_in q, wipe_length]
  · rw [wipe_out q]
abbrev W0 : WX := fun _ _ _ _ => False
theorem takes0 {X : Cx} : L2N.Takes X W0 := fun u s' ⟨_, _, _, _, _, _, _, _, _, _, _, _, _, _, _, _, w⟩ => w.elim
theorem po_of {W : Value → Option Addr → Hp → Prop} {H : Hp} {m : MH} {loc : Loc} {α β : Type} {Rl : Hp → MH → Loc → β → α → Prop} {r : R α} {Q : β → Hp → Prop} (hx : ∀ x m', r ≠ .exc x m') (hs : r ≠ .stuck)
    (h : ∀ d m', r = .ok d m' → ∀ v H' loc', Sim Γ.K H' m' loc' → KpM H m loc H' m' loc' → Rl H' m' loc' v d → Q v H') : Po Γ W H m loc Rl r Q := by
  cases r with
  | ok d m' => exact h d m' rfl
  | exc x m' => exact absurd rfl (hx x m')
  | stuck => exact absurd rfl hs
theorem loc_hide {loc loc' : Loc} {q : Addr} (h : loc'.f = (loc.hide q).f) : ∃ lc : Loc, loc' = lc.hide q ∧ lc.f = loc.f := by
  cases loc' with
  | mk l z =>
    cases h
    exact ⟨⟨l, loc.f⟩, rfl, rfl⟩
abbrev lcE (ev : Env → MH → R (List D)) (fe : Env → MH → R D) (fc : Env → MH → R Bool) (tg : Tg) : Env → MH → R D := fun env m => (ev env m).bind fun xs m => (lcRun fe fc tg (wipeT tg env) xs m).bind fun ys m => .ok (.lst ys) m
theorem lc_read {W : WX} {own : List (Str × Nat)} {ev : Env → MH → R (List D)} {fe : Env → MH → R D} {fc : Env → MH → R Bool} (hK : X.K = Γ.K) (hfe : ∀ env m x m', fe env m ≠ .exc x m') (hfc : ∀ env m x m', fc env m ≠ .exc x m') (ho1 : ∀ i ∈ own.map (·.2), i ∈ tgS tg) (ho2 : ∀ i ∈ tgS tg, i ∈ own.map (·.2))
    {σ : L2.St} {H : Hp} {Q : VK} (h : tE Γ W (lcE ev fe fc tg) σ H Q) : tLc (tR Γ W (rlJ Γ) ev) (gOf X.K tg) (tT Γ W0 fc) (tE Γ W0 fe) (own.map (·.2)) σ H Q := by
  obtain ⟨env, m, loc, A, p⟩ := h
  refine sub A p fun J H1 xs m1 loc1 _ A1 k1 r1 p1 => ?_
  have J1 : JW Γ.K J xs H1 m1 loc1 := r1
  intro q hq
  have s1 := A1.1
  have e1 := A1.2.wipe (tg := tg) (vs := own.map (·.2)) ho1
  generalize hr0 : lcRun fe fc tg (wipeT tg env) xs m1 = r0 at p1
  refine ⟨fun i n H => n = xs.length - i ∧ i ≤ xs.length ∧ ∃ (m : MH) (lc : Loc) (vs : List V) (ds : List D), Sim Γ.K H m (lc.hide q) ∧ KpM H1 m1 loc1 H m lc ∧ Kq H1 m1 loc1 H m (lc.hide q) ∧ H q = some (.lst vs) ∧ Reps Γ.K H (Live m (lc.hide q)) (lc.hide q) vs ds ∧ ds.length ≤ i ∧
    r0 = (lcRun fe fc tg (wipeT tg env) (xs.drop i) m).bind fun ys m => .ok (ds ++ ys) m, ⟨xs.length, by simp, Nat.zero_le _, m1, loc1, [], [], s1.hidden hq, kp_new hq s1, kq_hidden hq, upd_same, .nil, Nat.le_refl _, ?_⟩, ?_⟩
  · rw [List.drop_zero, hr0]
    cases r0 <;> rfl
  rintro i n H2 ⟨rfl, hi2, m2, lc, vs, ds, s2, k2, g2, hq2, rs2, hl2, hr⟩
  by_cases hlt : i < xs.length
  · have hx : xs[i]? = some xs[i] := List.getElem?_eq_getElem hlt
    rw [drop_at hx] at hr
    refine .inr ⟨J1.go i _ hx H2 m2 _ s2 g2, fun H => i + 1 ≤ xs.length ∧ ∃ (m : MH) (lc : Loc) (vs : List V) (ds : List D), Sim Γ.K H m (lc.hide q) ∧ KpM H1 m1 loc1 H m lc ∧ Kq H1 m1 loc1 H m (lc.hide q) ∧ H q = some (.lst vs) ∧ Reps Γ.K H (Live m (lc.hide q)) (lc.hide q) vs ds ∧ ds.length ≤ i + 1 ∧
      r0 = (lcRun fe fc tg (wipeT tg env) (xs.drop (i + 1)) m).bind fun ys m => .ok (ds ++ ys) m, fun H' h => ⟨xs.length - (i + 1), by omega, rfl, h⟩, fun v H3 y => ?_⟩
    obtain ⟨s3, k3, r3⟩ := J1.yld i _ hx H2 m2 _ s2 g2 v H3 y
    have hr : r0 = (match setT tg xs[i] (wipeT tg env) with
      | none => R.stuck
      | some env' => (fc env' m2).bind fun b m => match b with
        | true => (fe env' m).bind fun y m => (lcRun fe fc tg (wipeT tg env) (xs.drop (i + 1)) m).bind fun ys m => .ok (y :: ys) m
        | false => lcRun fe fc tg (wipeT tg env) (xs.drop (i + 1)) m).bind fun ys m => .ok (ds ++ ys) m := hr
    cases hst : setT tg xs[i] (wipeT tg env) with
    | none =>
      rw [hst] at hr
      have hr : r0 = .stuck := hr
      rw [hr] at p1
      exact (show False from p1).elim
    | some env' =>
      rw [hst] at hr
      have hr : r0 = ((fc env' m2).bind fun b m => match b with
        | true => (fe env' m).bind fun y m => (lcRun fe fc tg (wipeT tg env) (xs.drop (i + 1)) m).bind fun ys m => .ok (y :: ys) m
        | false => lcRun fe fc tg (wipeT tg env) (xs.drop (i + 1)) m).bind fun ys m => .ok (ds ++ ys) m := hr
      rw [hK]
      refine g_run r3 (e1.hop (g2.trans k3.kq)) hst fun σ2 e2 w2 => ⟨by rw [w2 _ ho2, wipe_wipe], env', m2, _, ⟨s3, e2⟩, ?_⟩
      refine po_of (fun x m' => hfc _ _ x m') (fun z => ?_) fun b m4 eb b' H4 loc4 s4 k4 rb => ?_
      · rw [z] at hr
        have hr : r0 = .stuck := hr
        rw [hr] at p1
        exact (show False from p1).elim
      · have hb : b' = b := rb
        subst hb
        rw [eb] at hr
        have k34 := k3.trans k4
        obtain ⟨lc4, eloc, hz4⟩ := loc_hide k34.fx
        subst eloc
        cases b' with
        | false =>
          rw [if_neg Bool.false_ne_true]
          refine ⟨hlt, m4, lc4, vs, ds, s4, kp_in k2 k34 hz4 hq, g2.trans k34.kq, ?_, rs2.mono k34, Nat.le_succ_of_le hl2, hr⟩
          rw [k34.hide q (.inr rfl)]
          exact hq2
        | true =>
          rw [if_pos rfl]
          have e4 : EnvR Γ.K H4 (Live m4 (lc4.hide q)) (lc4.hide q) σ2 env' := e2.mono k4
          refine ⟨env', m4, _, ⟨s4, e4⟩, ?_⟩
          have hr : r0 = ((fe env' m4).bind fun y m => (lcRun fe fc tg (wipeT tg env) (xs.drop (i + 1)) m).bind fun ys m => .ok (y :: ys) m).bind fun ys m => .ok (ds ++ ys) m := hr
          refine po_of (fun x m' => hfe _ _ x m') (fun z => ?_) fun d m5 ed v5 H5 loc5 s5 k5 r5 => ?_
          · rw [z] at hr
            have hr : r0 = .stuck := hr
            rw [hr] at p1
            exact (show False from p1).elim
          · rw [ed] at hr
            have k35 := k34.trans k5
            obtain ⟨lc5, eloc, hz5⟩ := loc_hide k35.fx
            subst eloc
            have hq5 : H5 q = some (.lst vs) := by
              rw [k35.hide q (.inr rfl)]
              exact hq2
            have hid5 : (lc5.hide q).z q := hide_z.mpr (.inr rfl)
            have r5 : RepM Γ.K H5 m5 (lc5.hide q) v5 d := r5
            refine ⟨vs, hq5, ?_, hlt, m5, lc5, vs ++ [v5], ds ++ [d], s5.grow hid5 hq5, kp_grow s1 (kp_in k2 k35 hz5 hq) hq, (g2.trans k35.kq).trans (kq_grow hid5), upd_same, ?_, ?_, ?_⟩
            · rw [rs2.length, ← LIM_eq]
              exact Nat.lt_of_le_of_lt hl2 (Nat.lt_of_lt_of_le hlt J1.lim)
            · exact ((rs2.mono k35).append (.cons r5 .nil)).hop (kq_grow hid5)
            · rw [List.length_append]
              exact Nat.succ_le_succ hl2
            · rw [hr]
              show ((lcRun fe fc tg (wipeT tg env) (xs.drop (i + 1)) m5).bind fun ys m => R.ok (d :: ys) m).bind (fun ys m => .ok (ds ++ ys) m) = _
              cases lcRun fe fc tg (wipeT tg env) (xs.drop (i + 1)) m5 with
              | ok ys m6 =>
                show R.ok (ds ++ d :: ys) m6 = R.ok (ds ++ [d] ++ ys) m6
                rw [List.append_assoc]
                rfl
              | exc x m6 => rfl
              | stuck => rfl
  · have e : i = xs.length := by omega
    subst e
    rw [List.drop_length] at hr
    have hr : r0 = .ok (ds ++ []) m2 := hr
    rw [List.append_nil] at hr
    rw [hr] at p1
    have p2 : Po Γ (fun c d H => W c d σ H) H1 m1 loc1 (rlD Γ) (.ok (.lst ds) m2) Q := p1
    refine .inl ⟨J1.stop H2 m2 _ s2 g2, p2 (.ref q) H2 lc s2.shown k2 (.lst hq2 ?_ ?_ (rs2.hop ⟨⟨[], by show lc.l = _ ; simp [Loc.hide]⟩, fun a o e n => ⟨e, fun l => n (live_hide.mpr (.inl l))⟩, rfl⟩))⟩
    · rintro (⟨n, c, z1, z2, z3⟩ | z)
      · exact s2.apart q (List.mem_of_getElem? z3) (hide_z.mpr (.inr rfl))
      · rw [k2.hid] at z
        exact s1.nz hq z rfl
    · rw [rs2.length]
      exact Nat.le_trans hl2 J1.lim
/-- what a comprehension's parts are -/
structure LcOk (Γ : Gam) (X : Cx) (elt t iter : Expr) (ifs : List Expr) (scope : Scope) (own : List (Str × Nat)) (tg : Tg) (ev : Env → MH → R (List D)) (fe : Env → MH → R D) (fc : Env → MH → R Bool) : Prop where
  it : SI Γ X t iter ev
  ok : BlkOk X.N X.env.scope scope own
  tgo : ∀ (s : Shared) (H : Hp) (C : Addr) (cl : List (Str × Addr)) (fp : List Addr), TgOk (X.blk s H scope (compEnvC scope cl C X.env) fp) t tg
  te : ∀ (s : Shared) (H : Hp) (C : Addr) (cl : List (Str × Addr)) (fp : List Addr), PTs (X.blk s H scope (compEnvC scope cl C X.env) fp) ifs (tT Γ W0 fc)
  el : ∀ (s : Shared) (H : Hp) (C : Addr) (cl : List (Str × Addr)) (fp : List Addr), PE (X.blk s H scope (compEnvC scope cl C X.env) fp) elt (tE Γ W0 fe)
  fe : ∀ env m x m', fe env m ≠ .exc x m'
  fc : ∀ env m x m', fc env m ≠ .exc x m'
  o1 : ∀ i ∈ own.map (·.2), i ∈ tgS tg
  o2 : ∀ i ∈ tgS tg, i ∈ own.map (·.2)
  pl : plainE iter = true
theorem se_lc {elt : Expr} {ifs : List Expr} {scope : Scope} {own : List (Str × Nat)} {ev : Env → MH → R (List D)} {fe : Env → MH → R D} {fc : Env → MH → R Bool} (hK : X.K = Γ.K) (hN : X.N.Nodup) (hc : X.calm = true) (h : LcOk Γ X elt t iter ifs scope own tg ev fe fc) :
    SE Γ X (.ListComp elt [⟨t, iter, ifs, 0⟩] scope pos) (lcE ev fe fc tg) := fun W tk =>
  wkE (pe_lc (g := gOf X.K tg) hc hN (h.it W tk) h.ok (fun s H C cl fp => TgOk.pg (X := X.blk s H scope (compEnvC scope cl C X.env) fp) hN hc (h.tgo s H C cl fp)) h.te h.el (fold_pure h.pl)) fun σ H Q q => lc_read hK h.fe h.fc h.o1 h.o2 q
/-- name = [..] on one line -/
theorem ss_setLc {y : Str} {py spos : Pos} {i : Nat} {elt : Expr} {ifs : List Expr} {scope : Scope} {own : List (Str × Nat)} {ev : Env → MH → R (List D)} {fe : Env → MH → R D} {fc : Env → MH → R Bool} (hK : X.K = Γ.K) (hN : X.N.Nodup) (hc : X.calm = true) (h : LcOk Γ X elt t iter ifs scope own tg ev fe fc)
    (hy : X.N[i]? = some y) (hyl : X.env.scope.names.lookup y = some .local) (hsw : swapsWith (.ListComp elt [⟨t, iter, ifs, 0⟩] scope pos) (some (.Name y py)) spos.line X.env = pure true) :
    SS Γ X (.Assign [.Name y py] (.ListComp elt [⟨t, iter, ifs, 0⟩] scope pos) spos) (fun env m => (lcE ev fe fc tg env m).at env fun d m => match setT (.one i) d env with
    | some env' => some (.nx env', m)
    | none => none) := fun W tk =>
  wkS (ps_setLc (g := gOf X.K tg) hc hN hy hyl hsw (h.it W tk) h.ok (fun s H C cl fp => TgOk.pg (X := X.blk s H scope (compEnvC scope cl C X.env) fp) hN hc (h.tgo s H C cl fp)) h.te h.el (fold_pure h.pl)) fun D σ H ⟨env, m, loc, A, p⟩ => by
  show tLc _ _ _ _ _ σ H fun x H1 => gName i x σ H1 D.nx
  refine lc_read hK h.fe h.fc h.o1 h.o2 (subS A p fun v H1 d m1 loc1 _ A1 k1 r1 p1 => ?_)
  exact p1 _ H1 loc1 A1.1 (Kp.refl _ _ _) (A1.2.set r1 i)
/-! ### stores -/
theorem repK_len {K : PySem.W.Frag} {H : Hp} {L : Addr → Prop} {loc : Loc} : ∀ {ks : List (Key × V)} {ds : List (Key × D)}, RepK K H L loc ks ds → ks.length = ds.length
  | _, _, .nil => rfl
  | _, _, .cons _ t => congrArg (· + 1) (repK_len t)
def tSetB : TSet := fun o i v H Q => rSetL o i v H Q ∨ rSetD o i v H Q
theorem pset_b (hu : X.A.units + 1 < cLine) : PSet X tSetB := fun pins s σ H o i v ov iv u Q I ro ri rv h => h.elim (set_list pins s σ H o i v ov iv u Q I ro ri rv) (set_dict hu pins s σ H o i v ov iv u Q I ro ri rv)
theorem setiD_run {K : PySem.W.Frag} {H : Hp} {m m' : MH} {loc : Loc} {vo vi vz : V} {x y z : D} {Q : Hp → Prop} (s : Sim K H m loc) (rx : RepM K H m loc vo x) (ry : RepM K H m loc vi y) (rz : RepM K H m loc vz z) (h : setiD x y z m = some m')
    (hQ : ∀ H', Sim K H' m' loc → KpM H m loc H' m' loc → Q H') : tSetB vo vi vz H Q := by
  cases x with
  | ref n =>
    have h : (match m[n]? with
      | some (.lst xs) => setL n xs z m y
      | some (.dic kvs) => setK n kvs z m (keyOf y)
      | _ => none) = some m' := h
    cases q : m[n]? with
    | none =>
      rw [q] at h
      cases h
    | some c =>
      rw [q] at h
      cases c with
      | lst xs =>
        obtain ⟨a, vs, rfl, hl, h1, hz, h2⟩ := lst_at s rx q
        have hd : Cell.lst xs ≠ .dead := fun z => nomatch z
        cases y with
        | int i =>
          cases ry
          obtain ⟨j, e1, e2⟩ := Option.map_eq_some_iff.mp (show (L2.ixN xs.length i).map (fun j => m.set n (.lst (xs.set j z))) = some m' from h)
          subst e2
          refine .inl ⟨a, vs, i, j, rfl, rfl, h1, by rw [h2.length]; exact e1, hQ _ (s.put q hd hl ⟨_, upd_same, by rw [List.length_set]; exact hz, ?_⟩) (kp_put s q hd hl)⟩
          exact (h2.set rz j).mono (kp_put s q hd hl)
        | _ => cases h
      | dic kvs =>
        obtain ⟨a, ks, rfl, hl, h1, h2⟩ := dic_at s rx q
        have hd : Cell.dic kvs ≠ .dead := fun z => nomatch z
        have h : setK n kvs z m (keyOf y) = some m' := h
        cases hk : keyOf y with
        | none =>
          rw [hk] at h
          cases h
        | some k =>
          rw [hk] at h
          have h : (if kvs.length < LIM then some (m.set n (.dic (putK kvs k z))) else none) = some m' := h
          split at h
          · rename_i hlt
            cases h
            have ek := keyOf_rep ry hk
            refine .inr ⟨a, _, rfl, ?_, hQ _ (s.put q hd hl ⟨_, upd_same, (putK_rep rz h2).mono (kp_put s q hd hl)⟩) (kp_put s q hd hl)⟩
            rw [ek]
            exact DPut.k h1 (lim_lt (by rw [repK_len h2]; exact hlt))
          · cases h
      | _ => cases h
  | _ => cases h
theorem ss_seti {i v : Expr} {eo ei ev : Env → MH → R D} {tpos : Pos} (hu : X.A.units + 1 < cLine) (ho : SE Γ X o eo) (hi : SE Γ X i ei) (hv : SE Γ X v ev) (hp : plainE i = true) (hs : swapsWithSole [.Subscript o i tpos] v pos.line X.env = pure false) (hw : swappedStores [.Subscript o i tpos] v X.env = pure none) :
    SS Γ X (.Assign [.Subscript o i tpos] v pos) (fun env m => (ev env m).at env fun z m => (eo env m).at env fun x m => (ei env m).at env fun y m => match setiD x y z m with
    | some m => some (.nx env, m)
    | none => none) := fun W tk => wkS (ps_asg (hv W tk) (pg_sub (ho W tk) (hi W tk) (pset_b hu) (fun u => by cases i <;> first | rfl | cases hp)) hs hw rfl) fun D σ H ⟨env, m, loc, A, p⟩ => subS A p fun v1 H1 d1 m1 loc1 _ A1 k1 r1 p1 => by
  refine subS A1 p1 fun v2 H2 d2 m2 loc2 _ A2 k2 r2 p2 => subS A2 p2 fun v3 H3 d3 m3 loc3 _ A3 k3 r3 p3 => ?_
  cases q : setiD d2 d3 d1 m3 with
  | none =>
    rw [q] at p3
    exact (show False from p3).elim
  | some m4 =>
    rw [q] at p3
    exact setiD_run A3.1 (r2.mono k3) r3 ((r1.mono k2).mono k3) q fun H' s' k' => p3 σ H' loc3 s' k' (A3.2.mono k')
/-! ### a, b = x, y -/
theorem setM_two {i j : Nat} {x y : D} {env : Env} : setT (.many [i, j]) (.tup [x, y]) env = some ((env.set i (some x)).set j (some y)) := rfl
theorem ss_par {i j : Nat} {x y : Str} {px py pt pt2 : Pos} {kt k2 : Nat} {e0 e1 : E} (hc : X.calm = true) (hN : X.N.Nodup) (hi : X.N[i]? = some x) (hj : X.N[j]? = some y) (hij : i ≠ j) (hx : X.env.scope.names.lookup x = some .local) (hy : X.env.scope.names.lookup y = some .local)
    (hs2 : SEs Γ X G C [a, b] [e0, e1]) (hw : swappedStores [.Tuple [.Name x px, .Name y py] kt pt] (.Tuple [a, b] k2 pt2) X.env = pure (some [x, y])) :
    SS Γ X (.Assign [.Tuple [.Name x px, .Name y py] kt pt] (.Tuple [a, b] k2 pt2) pos) (fun env m => (eval G C (.tup [e0, e1]) env m).at env fun d m => match setT (.many [i, j]) d env with
    | some env' => some (.nx env', m)
    | none => none) := fun W tk => wkS (ps_par hc hN hi hj hij hx hy (hs2.sa W tk) hw rfl) fun D σ H ⟨env, m, loc, A, p⟩ => by
  have e : (fun env m => (evals G C [e0, e1] env m).bind fun ds m => R.ok (.tup ds) m) = eval G C (.tup [e0, e1]) := rfl
  refine subS (D := D) (ev := evals G C [e0, e1]) (k := fun ds m => match setT (.many [i, j]) (.tup ds) env with
    | some env' => some (.nx env', m)
    | none => none) A ?_ fun vs H1 ds m1 loc1 z A1 k1 r1 p1 => ?_
  · have p : PoS Γ W H m loc (((evals G C [e0, e1] env m).bind fun ds m => R.ok (.tup ds) m).at env fun d m => match setT (.many [i, j]) d env with
      | some env' => some (.nx env', m)
      | none => none) D := p
    cases h : evals G C [e0, e1] env m with
    | ok ds m1 =>
      rw [h] at p
      exact p
    | exc x m1 =>
      rw [h] at p
      exact p
    | stuck =>
      rw [h] at p
      exact p
  · have hl := evals_len z
    match ds, hl, r1, p1 with
    | [d1, d2], _, r1, p1 =>
      obtain ⟨v, w, rfl, q1, q2⟩ := reps2 r1
      exact ⟨v, w, rfl, p1 _ H1 loc1 A1.1 (Kp.refl _ _ _) ((A1.2.set q1 i).set q2 j)⟩
theorem reps3 {K : PySem.W.Frag} {H : Hp} {L : Addr → Prop} {loc : Loc} {vs : List V} {d e f : D} (r : Reps K H L loc vs [d, e, f]) : ∃ u v w, vs = [u, v, w] ∧ Rep K H L loc u d ∧ Rep K H L loc v e ∧ Rep K H L loc w f := by
  cases r with
  | cons r t =>
    obtain ⟨v, w, rfl, q⟩ := reps2 t
    exact ⟨_, _, _, rfl, r, q⟩
theorem ss_par3 {i j l : Nat} {x y z : Str} {px py pz pt pt2 : Pos} {kt k2 : Nat} {e0 e1 e2 : E} (hc : X.calm = true) (hN : X.N.Nodup) (hi : X.N[i]? = some x) (hj : X.N[j]? = some y) (hl : X.N[l]? = some z) (hij : i ≠ j) (hil : i ≠ l) (hjl : j ≠ l) (hx : X.env.scope.names.lookup x = some .local) (hy : X.env.scope.names.lookup y = some .local) (hz : X.env.scope.names.lookup z = some .local)
    (hs2 : SEs Γ X G C [a, b, c] [e0, e1, e2]) (hw : swappedStores [.Tuple [.Name x px, .Name y py, .Name z pz] kt pt] (.Tuple [a, b, c] k2 pt2) X.env = pure (some [x, y, z])) :
    SS Γ X (.Assign [.Tuple [.Name x px, .Name y py, .Name z pz] kt pt] (.Tuple [a, b, c] k2 pt2) pos) (fun env m => (eval G C (.tup [e0, e1, e2]) env m).at env fun d m => match setT (.many [i, j, l]) d env with
    | some env' => some (.nx env', m)
    | none => none) := fun W tk => wkS (ps_par3 hc hN hi hj hl hij hil hjl hx hy hz (hs2.sa W tk) hw rfl) fun D σ H ⟨env, m, loc, A, p⟩ => by
  show tA Γ W (evals G C [e0, e1, e2]) σ H fun vs H1 => ∃ u v w, vs = [u, v, w] ∧ D.nx (((σ.set i (some u)).set j (some v)).set l (some w)) H1
  refine subS (D := D) (ev := evals G C [e0, e1, e2]) (k := fun ds m => match setT (.many [i, j, l]) (.tup ds) env with
    | some env' => some (.nx env', m)
    | none => none) A ?_ fun vs H1 ds m1 loc1 z A1 k1 r1 p1 => ?_
  · have p : PoS Γ W H m loc (((evals G C [e0, e1, e2] env m).bind fun ds m => R.ok (.tup ds) m).at env fun d m => match setT (.many [i, j, l]) d env with
      | some env' => some (.nx env', m)
      | none => none) D := p
    cases h : evals G C [e0, e1, e2] env m with
    | ok ds m1 =>
      rw [h] at p
      exact p
    | exc x m1 =>
      rw [h] at p
      exact p
    | stuck =>
      rw [h] at p
      exact p
  · have hl := evals_len z
    match ds, hl, r1, p1 with
    | [d1, d2, d3], _, r1, p1 =>
      obtain ⟨u, v, w, rfl, q1, q2, q3⟩ := reps3 r1
      exact ⟨u, v, w, rfl, p1 _ H1 loc1 A1.1 (Kp.refl _ _ _) (((A1.2.set q1 i).set q2 j).set q3 l)⟩
end
end Mi
/-! Mini: the state while a closure runs. -/
namespace Mi
open PySem PySem.Spec PyProof.Rows L2
variable [Glb]
theorem kill_len (m : MH) : (killC m).length = m.length := List.length_map _
theorem rev_len : ∀ {m m' : MH}, m.length ≤ m'.length → (revC m m').length = m'.length
  | [], m', _ => rfl
  | c :: m, c' :: m', h => congrArg (· + 1) (rev_len (m := m) (m' := m') (by simpa using h))
  | c :: m, [], h => by simp at h
theorem kill_at {m : MH} {n : Nat} {c : Cell} (h : (killC m)[n]? = some c) : ∃ c0, m[n]? = some c0 ∧ c = if isClo c0 then .dead else c0 := by
  unfold killC at h
  rw [List.getElem?_map] at h
  obtain ⟨c0, h1, h2⟩ := Option.map_eq_some_iff.mp h
  exact ⟨c0, h1, h2.symm⟩
theorem rev_at : ∀ {m m' : MH} {n : Nat} {c : Cell}, (revC m m')[n]? = some c → (m[n]? = some c ∧ isClo c = true) ∨ (m'[n]? = some c ∧ ∀ c0, m[n]? = some c0 → isClo c0 = false)
  | [], m', n, c, h => .inr ⟨h, fun c0 z => by simp at z⟩
  | c0 :: m, c' :: m', 0, c, h => by
    have h : (if isClo c0 then c0 else c') = c := by simpa [revC] using h
    cases q : isClo c0 with
    | true =>
      rw [q] at h
      have h : c0 = c := h
      subst h
      exact .inl ⟨rfl, q⟩
    | false =>
      rw [q] at h
      have h : c' = c := h
      subst h
      exact .inr ⟨rfl, fun c1 z => by
        have z : c0 = c1 := by simpa using z
        rw [← z]
        exact q⟩
  | c0 :: m, c' :: m', n + 1, c, h => by
    have := rev_at (m := m) (m' := m') (n := n) (c := c) (by simpa [revC] using h)
    simpa using this
  | _ :: _, [], n, c, h => by simp [revC] at h
section
variable {K : PySem.W.Frag} {O : List (Addr × Obj)} {H H' : Hp} {L L' : Addr → Prop} {loc loc' : Loc} {m m' : MH}
theorem rd_dn {a : Addr} {u : HO} (h : Rd (ov O H) a u) (hu : u ≠ TT0) (hf : ∀ o, u ≠ .frz o TT0) : Rd H a u := by
  cases q : O.lookup a with
  | some o =>
    rcases h with h | ⟨o', h⟩
    · rw [ov_at q] at h
      exact absurd (Option.some.inj h).symm (hf o)
    · rw [ov_at q] at h
      injection h with h
      injection h with h1 h2
      exact absurd h2.symm hu
  | none =>
    rcases h with h | ⟨o', h⟩
    · rw [ov_no q] at h
      exact .inl h
    · rw [ov_no q] at h
      exact .inr ⟨o', h⟩
theorem at_dn {a : Addr} {u : HO} (h : ov O H a = some u) (hu : ∀ o, u ≠ .frz o TT0) : H a = some u := by
  cases q : O.lookup a with
  | some o =>
    rw [ov_at q] at h
    exact absurd (Option.some.inj h).symm (hu o)
  | none =>
    rw [ov_no q] at h
    exact h
mutual
theorem Rep.dn (hl : loc'.l = loc.l) (hL : ∀ a, L' a → L a) : ∀ {v : V} {d : D}, Rep K (ov O H) L loc v d → Rep K H L' loc' v d
  | _, _, .non => .non
  | _, _, .bl b => .bl b
  | _, _, .int i => .int i
  | _, _, .str s => .str s
  | _, _, .tup h z r => .tup (h.imp (fun h => ⟨rd_dn h.1 (fun z => by cases z) (fun o z => by cases z), fun l => h.2 (hL _ l)⟩) id) z (Reps.dn hl hL r)
  | _, _, .lst h n z r => .lst (at_dn h fun o z => by cases z) (fun l => n (hL _ l)) z (Reps.dn hl hL r)
  | _, _, .dic h n r => .dic (at_dn h fun o z => by cases z) (fun l => n (hL _ l)) (RepK.dn hl hL r)
  | _, _, .scr h z => .scr (h.imp (fun h => ⟨rd_dn h.1 (fun z => by cases z) (fun o z => by cases z), fun l => h.2 (hL _ l)⟩) id) z
  | _, _, .ref h => .ref (by rw [hl]; exact h)
  | _, _, .cls h => .cls h
theorem Reps.dn (hl : loc'.l = loc.l) (hL : ∀ a, L' a → L a) : ∀ {vs : List V} {ds : List D}, Reps K (ov O H) L loc vs ds → Reps K H L' loc' vs ds
  | _, _, .nil => .nil
  | _, _, .cons r t => .cons (Rep.dn hl hL r) (Reps.dn hl hL t)
theorem RepK.dn (hl : loc'.l = loc.l) (hL : ∀ a, L' a → L a) : ∀ {vs : List (Key × V)} {ds : List (Key × D)}, RepK K (ov O H) L loc vs ds → RepK K H L' loc' vs ds
  | _, _, .nil => .nil
  | _, _, .cons r t => .cons (Rep.dn hl hL r) (RepK.dn hl hL t)
end
theorem RepF.dn (hl : loc'.l = loc.l) (hL : ∀ a, L' a → L a) : ∀ {vs : List (Str × V)} {ds : List (Str × D)}, RepF K (ov O H) L loc vs ds → RepF K H L' loc' vs ds
  | [], [], _ => True.intro
  | [], _ :: _, h => h.elim
  | _ :: _, [], h => h.elim
  | (_, _) :: vs, (_, _) :: ds, ⟨h1, h2, t⟩ => ⟨h1, h2.dn hl hL, RepF.dn hl hL t⟩
/-! up again -/
structure UpOk (O : List (Addr × Obj)) (H : Hp) (L L' : Addr → Prop) : Prop where
  no : ∀ b o, O.lookup b = some o → H b = none
  live : ∀ a, L' a → L a ∨ (∃ o, H a = some (.frz o TT0)) ∨ ∃ o, O.lookup a = some o
theorem UpOk.nl (k : UpOk O H L L') {a : Addr} {u : HO} (h : H a = some u) (hu : ∀ o, u ≠ .frz o TT0) (n : ¬ L a) : ¬ L' a := fun l => by
  rcases k.live a l with l | ⟨o, e⟩ | ⟨o, e⟩
  · exact n l
  · rw [h] at e
    exact hu o (Option.some.inj e)
  · rw [k.no a o e] at h
    cases h
theorem UpOk.rd (k : UpOk O H L L') {a : Addr} {u : HO} (h : Rd H a u) (h1 : u ≠ TT0) (h2 : ∀ o, u ≠ .frz o TT0) (n : ¬ L a) : Rd (ov O H) a u ∧ ¬ L' a := by
  rcases h with h | ⟨o, h⟩
  · exact ⟨.inl (OvOk.ext k.no h), k.nl h h2 n⟩
  · exact ⟨.inr ⟨o, OvOk.ext k.no h⟩, k.nl h (fun o' z => by injection z with z1 z2; exact h1 z2) n⟩
mutual
theorem Rep.up (hl : ∀ (n : Nat) (a : Addr), loc.l[n]? = some a → loc'.l[n]? = some a) (k : UpOk O H L L') : ∀ {v : V} {d : D}, Rep K H L loc v d → Rep K (ov O H) L' loc' v d
  | _, _, .non => .non
  | _, _, .bl b => .bl b
  | _, _, .int i => .int i
  | _, _, .str s => .str s
  | _, _, .tup h z r => .tup (h.imp (fun h => k.rd h.1 (fun z => by cases z) (fun o z => by cases z) h.2) id) z (Reps.up hl k r)
  | _, _, .lst h n z r => .lst (OvOk.ext k.no h) (k.nl h (fun o z => by cases z) n) z (Reps.up hl k r)
  | _, _, .dic h n r => .dic (OvOk.ext k.no h) (k.nl h (fun o z => by cases z) n) (RepK.up hl k r)
  | _, _, .scr h z => .scr (h.imp (fun h => k.rd h.1 (fun z => by cases z) (fun o z => by cases z) h.2) id) z
  | _, _, .ref h => .ref (hl _ _ h)
  | _, _, .cls h => .cls h
theorem Reps.up (hl : ∀ (n : Nat) (a : Addr), loc.l[n]? = some a → loc'.l[n]? = some a) (k : UpOk O H L L') : ∀ {vs : List V} {ds : List D}, Reps K H L loc vs ds → Reps K (ov O H) L' loc' vs ds
  | _, _, .nil => .nil
  | _, _, .cons r t => .cons (Rep.up hl k r) (Reps.up hl k t)
theorem RepK.up (hl : ∀ (n : Nat) (a : Addr), loc.l[n]? = some a → loc'.l[n]? = some a) (k : UpOk O H L L') : ∀ {vs : List (Key × V)} {ds : List (Key × D)}, RepK K H L loc vs ds → RepK K (ov O H) L' loc' vs ds
  | _, _, .nil => .nil
  | _, _, .cons r t => .cons (Rep.up hl k r) (RepK.up hl k t)
end
theorem RepF.up (hl : ∀ (n : Nat) (a : Addr), loc.l[n]? = some a → loc'.l[n]? = some a) (k : UpOk O H L L') : ∀ {vs : List (Str × V)} {ds : List (Str × D)}, RepF K H L loc vs ds → RepF K (ov O H) L' loc' vs ds
  | [], [], _ => True.intro
  | [], _ :: _, h => h.elim
  | _ :: _, [], h => h.elim
  | (_, _) :: vs, (_, _) :: ds, ⟨h1, h2, t⟩ => ⟨h1, h2.up hl k, RepF.up hl k t⟩
/-- the cells at O left out of what is known of running frames -/
def Loc.less (loc : Loc) (O : List (Addr × Obj)) : Loc := ⟨loc.l, { loc.f with x := fun a => loc.f.x a ∧ O.lookup a = none }⟩
theorem live_kill {a : Addr} (h : Live (killC m) (loc.less O) a) : Live m loc a := by
  rcases h with ⟨n, c, e1, nd, e2⟩ | h
  · obtain ⟨c0, h1, h2⟩ := kill_at e1
    refine .inl ⟨n, c0, h1, fun z => nd ?_, e2⟩
    rw [h2, z]
    rfl
  · exact .inr h
theorem tab_dn {b : Addr} {q : Str} (t : LamX.TabS (ov O H) b q) : LamX.TabS H b q := by
  obtain ⟨ps, e1, e2, e3⟩ := t
  refine ⟨ps, at_dn e1 (fun o z => by cases z), e2, fun pos cv hc => ?_⟩
  obtain ⟨c, f1, f2⟩ := e3 pos cv hc
  exact ⟨c, f1, at_dn f2 fun o z => by unfold LamX.CodeO at z; cases z⟩
theorem tab_up {b : Addr} {q : Str} (hn : ∀ b o, O.lookup b = some o → H b = none) (t : LamX.TabS H b q) : LamX.TabS (ov O H) b q := t.ext fun _ _ e => OvOk.ext hn e
theorem Sim.kill (s : Sim K (ov O H) m loc) (hO : ∀ a ∈ loc.l, O.lookup a = none) (hz : ∀ a, loc.z a → O.lookup a = none) : Sim K H (killC m) (loc.less O) := by
  have dn : ∀ a, O.lookup a = none → (∃ o, ov O H a = some o) → ∃ o, H a = some o := fun a q ⟨o, e⟩ => ⟨o, by rw [ov_no q] at e; exact e⟩
  refine ⟨by rw [kill_len]; exact s.len, s.nd, fun a e => dn a (hO a e) (s.old a e), fun a z => dn a (hz a z) (s.hid a z), s.apart, fun p hp => tab_dn (s.tab p hp), fun a ⟨x, q⟩ => ?_, ⟨s.fi.T, s.fi.t, s.fi.k⟩, fun a z => let ⟨u, e⟩ := s.hk a z; ⟨u, at_dn e (fun o z => by cases z)⟩, fun n c a e1 e2 => ?_⟩
  · obtain ⟨o, e⟩ := s.xs a x
    rw [ov_no q] at e
    exact ⟨o, e⟩
  · obtain ⟨c0, h1, h2⟩ := kill_at e1
    have r := s.cell n c0 a h1 e2
    have q := hO a (List.mem_of_getElem? e2)
    subst h2
    cases c0 with
    | lst ds =>
      obtain ⟨vs, g1, g2, g3⟩ := r
      exact ⟨vs, by rw [ov_no q] at g1; exact g1, g2, g3.dn (L := Live m loc) (loc := loc) (loc' := loc.less O) (L' := Live (killC m) (loc.less O)) rfl (fun _ l => live_kill (O := O) l)⟩
    | dic ds =>
      obtain ⟨vs, g1, g3⟩ := r
      exact ⟨vs, by rw [ov_no q] at g1; exact g1, g3.dn (L := Live m loc) (loc := loc) (loc' := loc.less O) (L' := Live (killC m) (loc.less O)) rfl (fun _ l => live_kill (O := O) l)⟩
    | ins k fs =>
      obtain ⟨C, dx, vs, g1, g2, g3⟩ := r
      exact ⟨C, dx, vs, g1, by rw [ov_no q] at g2; exact g2, g3.dn (L := Live m loc) (loc := loc) (loc' := loc.less O) (L' := Live (killC m) (loc.less O)) rfl (fun _ l => live_kill (O := O) l)⟩
    | clo i ds b => exact True.intro
    | dead => exact True.intro
/-- behind the run of a closure: all closures of before are there again -/
theorem Sim.revive (s : Sim K (ov O H) m loc) (hO : ∀ a ∈ loc.l, O.lookup a = none) (hz : ∀ a, loc.z a → O.lookup a = none) (hn : ∀ b o, O.lookup b = some o → H b = none) (hn' : ∀ b o, O.lookup b = some o → H' b = none)
    (s' : Sim K H' m' loc') (k : KpM H (killC m) (loc.less O) H' m' loc') :
    Sim K (ov O H') (revC m m') ⟨loc'.l, loc.f⟩ ∧ KpM (ov O H) m loc (ov O H') (revC m m') ⟨loc'.l, loc.f⟩ ∧ ∀ {v : V} {d : D}, RepM K H' m' loc' v d → RepM K (ov O H') (revC m m') ⟨loc'.l, loc.f⟩ v d := by
  obtain ⟨x, ex⟩ := k.pre
  have ex : loc'.l = loc.l ++ x := ex
  have fx : loc'.f = (loc.less O).f := k.fx
  have hle : m.length ≤ m'.length := by
    have h1 := s'.len
    have h2 := s.len
    rw [ex, List.length_append] at h1
    omega
  have hl : ∀ {n : Nat} {a : Addr}, loc.l[n]? = some a → loc'.l[n]? = some a := fun {n a} e => by
    rw [ex, List.getElem?_append_left (List.getElem?_eq_some_iff.mp e).1]
    exact e
  have hb : ∀ {n : Nat} {a : Addr}, n < m.length → loc'.l[n]? = some a → loc.l[n]? = some a := fun {n a} h e => by
    rw [ex, List.getElem?_append_left (by rw [s.len]; exact h)] at e
    exact e
  -- a closure of before, at its place
  have clo : ∀ {n i : Nat} {ds : List D} {b : Bool} {a : Addr}, m[n]? = some (.clo i ds b) → loc.l[n]? = some a → ¬ Live (killC m) (loc.less O) a ∧ CloR K (ov O H) (Live m loc) loc a i ds b := fun {n i ds b a} h1 h2 => by
    refine ⟨fun l => ?_, s.cell n _ a h1 h2⟩
    rcases l with ⟨n', c, e1, nd, e2⟩ | l
    · have : n' = n := nodup_at s.nd e2 h2
      subst this
      obtain ⟨c0, g1, g2⟩ := kill_at e1
      rw [h1] at g1
      cases g1
      exact nd g2
    · exact s.apart a (List.mem_of_getElem? h2) l
  have cfrz : ∀ {n : Nat} {c : Cell} {a : Addr}, m[n]? = some c → isClo c = true → loc.l[n]? = some a → (∃ o, H' a = some (.frz o TT0)) ∧ ov O H' a = ov O H a := fun {n c a} h1 hc h2 => by
    cases c with
    | clo i ds b =>
      obtain ⟨n1, r⟩ := clo h1 h2
      obtain ⟨lam, cl, pm, ctv, c', g1, g2, _⟩ := r.ex
      have q := hO a (List.mem_of_getElem? h2)
      have g2' := g2
      rw [ov_no q] at g2'
      obtain ⟨e1, e2⟩ := k.keep a _ g2' n1
      exact ⟨⟨_, e1⟩, by rw [ov_no q, e1, g2]⟩
    | _ => cases hc
  have live' : ∀ a, Live (revC m m') ⟨loc'.l, loc.f⟩ a → Live m' loc' a ∨ (∃ o, H' a = some (.frz o TT0)) ∨ ∃ o, O.lookup a = some o := fun a l => by
    rcases l with ⟨n, c, e1, nd, e2⟩ | l
    · rcases rev_at e1 with ⟨h1, hc⟩ | ⟨h1, _⟩
      · have hlt := (List.getElem?_eq_some_iff.mp h1).1
        exact .inr (.inl (cfrz h1 hc (hb hlt e2)).1)
      · exact .inl (.inl ⟨n, c, h1, nd, e2⟩)
    · refine .inl (.inr ?_)
      have l : loc.z a := l
      show loc'.f.z a ∨ a ∈ loc'.f.T.map (·.1)
      rw [fx]
      exact l
  have uo : UpOk O H' (Live m' loc') (Live (revC m m') ⟨loc'.l, loc.f⟩) := ⟨hn', live'⟩
  have kp : KpM (ov O H) m loc (ov O H') (revC m m') ⟨loc'.l, loc.f⟩ := by
    refine ⟨⟨x, ex⟩, rfl, fun a z => ?_, fun a o e nl => ?_, fun a e => ?_, fun a o e => ?_⟩
    · have q := hz a (.inl z)
      rw [ov_no q, ov_no q]
      exact k.hide a z
    · cases q : O.lookup a with
      | some o' =>
        rw [ov_at q] at e
        cases e
        refine ⟨ov_at q, fun l => ?_⟩
        rcases l with ⟨n, c, e1, nd, e2⟩ | l
        · rcases rev_at e1 with ⟨h1, hc⟩ | ⟨h1, _⟩
          · have hlt := (List.getElem?_eq_some_iff.mp h1).1
            rw [hO a (List.mem_of_getElem? (hb hlt e2))] at q
            cases q
          · obtain ⟨o2, e3⟩ := s'.old a (List.mem_of_getElem? e2)
            rw [hn' a _ q] at e3
            cases e3
        · rw [hz a l] at q
          cases q
      | none =>
        rw [ov_no q] at e ⊢
        have nl' : ¬ Live (killC m) (loc.less O) a := fun l => nl (live_kill l)
        obtain ⟨e1, e2⟩ := k.keep a o e nl'
        refine ⟨e1, fun l => ?_⟩
        rcases l with ⟨n, c, e3, nd, e4⟩ | l
        · rcases rev_at e3 with ⟨h1, hc⟩ | ⟨h1, _⟩
          · have hlt := (List.getElem?_eq_some_iff.mp h1).1
            exact nl (.inl ⟨n, c, h1, nd, hb hlt e4⟩)
          · exact e2 (.inl ⟨n, c, h1, nd, e4⟩)
        · exact nl (.inr l)
    · have e : a ∈ loc'.l := e
      rcases k.new a e with h | h
      · exact .inl h
      · cases q : O.lookup a with
        | some o =>
          obtain ⟨o2, e3⟩ := s'.old a e
          rw [hn' a _ q] at e3
          cases e3
        | none =>
          rw [ov_no q]
          exact .inr h
    · cases q : O.lookup a with
      | some o' => exact ⟨_, ov_at q⟩
      | none =>
        rw [ov_no q] at e ⊢
        exact k.there a o e
  refine ⟨⟨?_, s'.nd, fun a e => ?_, fun a z => ?_, fun a e z => ?_, fun p hp => ?_, fun a xx => ?_, s.fi, fun a z => let ⟨u, e⟩ := s.hk a z; ⟨u, by rw [kp.hide a z]; exact e⟩, fun n c a e1 e2 => ?_⟩, kp, fun r => r.up (L := Live m' loc') (loc := loc') (loc' := ⟨loc'.l, loc.f⟩) (fun _ _ e => e) uo⟩
  · show loc'.l.length = _
    rw [rev_len hle]
    exact s'.len
  · obtain ⟨o, q⟩ := s'.old a e
    exact ⟨o, OvOk.ext hn' q⟩
  · have z : loc.z a := z
    obtain ⟨o, q⟩ := s.hid a z
    exact kp.there a o q
  · refine s'.apart a e ?_
    show loc'.f.z a ∨ a ∈ loc'.f.T.map (·.1)
    rw [fx]
    exact z
  · exact tab_up hn' (s'.tab p (by rw [fx]; exact hp))
  · cases q : O.lookup a with
    | some o => exact ⟨o, ov_at q⟩
    | none =>
      obtain ⟨o, e⟩ := s'.xs a (by rw [fx]; exact ⟨xx, q⟩)
      exact ⟨o, OvOk.ext hn' e⟩
  · rcases rev_at e1 with ⟨h1, hc⟩ | ⟨h1, _⟩
    · have hlt := (List.getElem?_eq_some_iff.mp h1).1
      exact (s.cell n c a h1 (hb hlt e2)).keep kp (cfrz h1 hc (hb hlt e2)).2
    · have r := s'.cell n c a h1 e2
      have q : O.lookup a = none := by
        cases q : O.lookup a with
        | none => rfl
        | some o =>
          obtain ⟨o2, e3⟩ := s'.old a (List.mem_of_getElem? e2)
          rw [hn' a _ q] at e3
          cases e3
      cases c with
      | lst ds =>
        obtain ⟨vs, g1, g2, g3⟩ := r
        exact ⟨vs, OvOk.ext hn' g1, g2, g3.up (L := Live m' loc') (loc := loc') (loc' := ⟨loc'.l, loc.f⟩) (fun _ _ e => e) uo⟩
      | dic ds =>
        obtain ⟨vs, g1, g3⟩ := r
        exact ⟨vs, OvOk.ext hn' g1, g3.up (L := Live m' loc') (loc := loc') (loc' := ⟨loc'.l, loc.f⟩) (fun _ _ e => e) uo⟩
      | ins kk fs =>
        obtain ⟨C, dx, vs, g1, g2, g3⟩ := r
        rw [fx] at g1
        exact ⟨C, dx, vs, g1, OvOk.ext hn' g2, g3.up (L := Live m' loc') (loc := loc') (loc' := ⟨loc'.l, loc.f⟩) (fun _ _ e => e) uo⟩
      | clo i ds b =>
        have r : CloR K H' (Live m' loc') loc' a i ds b := r
        obtain ⟨lam, cl, pm, ctv, c', g1, g2, g3, g4, g5, g6, g7, g8, g9⟩ := r.ex
        rw [fx] at g1
        have cap : ∀ {ys : List Str} {ds : List D}, CapR K H' (Live m' loc') loc' cl b ys ds → CapR K (ov O H') (Live (revC m m') ⟨loc'.l, loc.f⟩) ⟨loc'.l, loc.f⟩ cl b ys ds := fun {ys} => by
          induction ys with
          | nil =>
            intro ds h
            cases ds with
            | nil => exact True.intro
            | cons => exact h.elim
          | cons y ys ih =>
            intro ds h
            cases ds with
            | nil => exact h.elim
            | cons d ds =>
              obtain ⟨⟨c, oc, u, v, f1, f2, f3, f4, f5, f6, f7⟩, t⟩ := h
              have qc : O.lookup c = none := by
                cases qc : O.lookup c with
                | none => rfl
                | some o =>
                  rw [hn' c _ qc] at f2
                  cases f2
              refine ⟨⟨c, oc, u, v, f1, OvOk.ext hn' f2, ⟨fun l => ?_, f3.2⟩, fun e xx => ?_, f5, f6, f7.up (L := Live m' loc') (loc := loc') (loc' := ⟨loc'.l, loc.f⟩) (fun _ _ e => e) uo⟩, ih t⟩
              · rcases l with ⟨n', c2, e3, nd, e4⟩ | l
                · rcases rev_at e3 with ⟨h2, hc⟩ | ⟨h2, _⟩
                  · have hlt := (List.getElem?_eq_some_iff.mp h2).1
                    cases c2 with
                    | clo i2 ds2 b2 =>
                      obtain ⟨_, r2⟩ := clo h2 (hb hlt e4)
                      obtain ⟨lam2, cl2, pm2, ctv2, c2', k1, k2, _⟩ := r2.ex
                      have k2' := (cfrz h2 hc (hb hlt e4)).2
                      rw [k2, ov_no qc, f2] at k2'
                      injection k2' with k3
                      injection k3 with k4 k5
                      rw [k4] at f5
                      cases f5
                    | _ => cases hc
                  · exact f3.1 (.inl ⟨n', c2, h2, nd, e4⟩)
                · refine f3.1 (.inr ?_)
                  have l : loc.z c := l
                  show loc'.f.z c ∨ c ∈ loc'.f.T.map (·.1)
                  rw [fx]
                  exact l
              · refine f4 e ?_
                rw [fx]
                exact ⟨xx, qc⟩
        refine CloR.mk ⟨lam, cl, pm, ctv, c', g1, OvOk.ext hn' g2, OvOk.ext hn' g3, fun l => ?_, g5, g6, g7, g8, cap g9⟩
        exact uo.nl g3 (fun o z => by unfold LamX.CodeO at z; cases z) g4 l
      | dead => exact True.intro
end
end Mi
/-! Mini: lambdas made. -/
namespace Mi
open PySem PySem.Spec PyProof.Rows L2
variable [Glb]
section
variable {X : Cx} {pins : List (Addr × Obj)} {σ : L2.St} {H : Hp} {s : Shared}
/-- an untracked object that is new here becomes a known one -/
theorem Inv.adopt {b : Addr} {o : Obj} (I : Inv X pins σ H s) (hb : s.heap.get? b = some o) (hn : H b = none) (h0 : X.s_0.heap.objs.size ≤ b) (hL : b ≠ X.env.locals) (hC : ∀ x c, X.env.cells.lookup x = some c → c ≠ b) (hP : ∀ p ∈ X.pn ++ pins, p.1 ≠ b) :
    Inv X pins σ (upd H b (.frz o TT0)) s := by
  have old : ∀ c u, X.s_0.heap.get? c = some u → c ≠ b := fun c u e z => by
    have := Heap.lt_size e
    rw [z] at this
    exact Nat.lt_irrefl _ (Nat.lt_of_lt_of_le this h0)
  have up : ∀ c u, H c = some u → upd H b (.frz o TT0) c = some u := upd_new hn
  refine ⟨I.ok, I.os, I.bare, ⟨I.base.keep, I.base.slot, fun c u e n nx => ?_, I.base.there, fun c xs e => up _ _ (I.base.tups c xs e), fun c ob xs e => up _ _ (I.base.frzs c ob xs e), fun c ps e => ?_⟩, I.loc, I.cell, ?_, fun x c e => ?_, fun p hp => ?_, fun c u e => ?_, I.len⟩
  · rw [upd_ne (old c u e)]
    exact I.base.free c u e n nx
  · obtain ⟨more, z⟩ := I.base.tbls c ps e
    exact ⟨more, up _ _ z⟩
  · rw [upd_ne (Ne.symm hL)]
    exact I.free
  · rw [upd_ne (hC x c e)]
    exact I.freeC x c e
  · obtain ⟨g1, g2, g3⟩ := I.pin p hp
    refine ⟨g1, ?_, g3⟩
    rw [upd_ne (hP p hp)]
    exact g2
  · by_cases q : c = b
    · subst q
      rw [upd_same] at e
      cases e
      exact ⟨hb, True.intro, ⟨o, hb⟩, fun _ _ _ _ => True.intro⟩
    · rw [upd_ne q] at e
      exact (I.hok c u e).stay (fun _ _ _ z => z) (fun d z => up _ _ z) fun d xs z => up _ _ z
/-- what a lambda's making leaves -/
structure MadeL (H H1 : Hp) (P c' : Addr) (q : Str) : Prop where
  code : H1 c' = some (LamX.CodeO c' q)
  tab : LamX.TabS H1 P q
  ext : ∀ b o, H b = some o → b ≠ P → H1 b = some o
  back : ∀ b, H1 b = none → H b = none
  new : ∀ b o, H1 b = some o → H b = some o ∨ b = P ∨ (b = c' ∧ H c' = none)
theorem lam_new {c P : Addr} {pa : Arguments} {body : Expr} {scope : Scope} {pos : Pos} {E Q : Value → Shared → Prop} (I : Inv X pins σ H s) (TB : LamX.TabB X.base X.mg c P) (hcode : X.env.code = .ref c) (hT : LamX.TabS H P (X.env.qual ++ "<lambda>"))
    (hdef : defaultsOf pa X.env = ([], [])) (hfree : ∀ y ∈ scope.names, y.2 = .free → ∃ c, X.env.cells.lookup y.1 = some c)
    (h : ∀ (f c' : Addr) (pm ctv : Value) (H1 : Hp) (s' : Shared), Inv X pins σ (upd H1 f (.frz (PySem.W.kla_obj "<lambda>" (X.env.qual ++ "<lambda>") pa body scope (cloFrom X.env.cells scope.names []) pm c' ctv) TT0)) s' → H1 f = none → MadeL H H1 P c' (X.env.qual ++ "<lambda>") → Q (.ref f) s') :
    wpAny (model X.prog X.w) X.A (PySem.eval (.Lambda pa body scope pos) X.env) Q E s := by
  obtain ⟨ps, hP, ht, ha⟩ := id hT
  refine PySem.W.kla_eval hdef ?_
  have bP : s.heap.BuiltinsAt X.mg P := TB.bm.keeps I.bk
  have oP : s.heap.get? P = some { cls := .none, data := .fields ps } := I.hok P _ hP
  -- a new address may be adopted
  have adopt : ∀ {H1 : Hp} {s1 : Shared} {f : Addr} {o : Obj}, Inv X pins σ H1 s1 → s.heap.objs.size ≤ f → s1.heap.get? f = some o → H1 f = none → Inv X pins σ (upd H1 f (.frz o TT0)) s1 := fun {H1 s1 f o} J hf ho hn => by
    refine Inv.adopt J ho hn (Nat.le_trans I.sz hf) (fun z => ?_) (fun x c e z => ?_) fun p hp z => ?_
    · have := I.lt
      rw [← z] at this
      exact Nat.lt_irrefl _ (Nat.lt_of_lt_of_le this hf)
    · obtain ⟨v, oc, g, _⟩ := I.cell x c e
      have := Heap.lt_size g
      rw [z] at this
      exact Nat.lt_irrefl _ (Nat.lt_of_lt_of_le this hf)
    · have := Heap.lt_size (I.pin p hp).1
      rw [z] at this
      exact Nat.lt_irrefl _ (Nat.lt_of_lt_of_le this hf)
  cases hc : codeAmong pos ps.toList with
  | some cv =>
    obtain ⟨c', rfl, hco⟩ := ha pos cv hc
    refine PySem.W.kla_makeFunctionHit (mg := X.mg) (c := c) (P := P) (ps := ps) (closure_ok hfree) I.ok.glob (I.mod.glob.keeps I.bk) hcode (TB.code.keeps I.bk) oP ht hc bP fun ctv h' tk hx hsz => ?_
    have J : Inv X pins σ H { s with heap := h'.push (PySem.W.kla_obj "<lambda>" (X.env.qual ++ "<lambda>") pa body scope (cloFrom X.env.cells scope.names []) ((X.mg "__name__").getD .none) c' ctv), toks := tk } := I.kept fun b o e => Heap.get?_push_of_some _ (hx b o e)
    have hn : H h'.objs.size = none := I.hok.fresh hsz
    exact h h'.objs.size c' _ ctv H _ (adopt J hsz (Heap.get?_push_size _ rfl) hn) hn ⟨hco, hT, fun _ _ e _ => e, fun _ e => e, fun _ _ e => .inl e⟩
  | none =>
    refine PySem.W.kla_makeFunction (mg := X.mg) (c := c) (P := P) (ps := ps) (closure_ok hfree) I.ok.glob (I.mod.glob.keeps I.bk) hcode (TB.code.keeps I.bk) oP ht hc TB.gP bP fun c' ctv h' tk hx hge hlt hrec htb => ?_
    obtain ⟨c2, oc, vs, t, e2, hoc, hd, hv⟩ := hrec
    cases e2
    have hsz : s.heap.objs.size ≤ h'.objs.size := Nat.le_trans hge (Nat.le_of_lt hlt)
    have nC : H c' = none := I.hok.fresh hge
    have J := LamX.inv_table (t' := tk) (more := #[rawInt pos.line, rawInt pos.col, .ref c']) (q := X.env.qual ++ "<lambda>") (h' := h'.push (PySem.W.kla_obj "<lambda>" (X.env.qual ++ "<lambda>") pa body scope (cloFrom X.env.cells scope.names []) ((X.mg "__name__").getD .none) c' ctv)) I hP
      (fun b o nb e => Heap.get?_push_of_some _ (hx b o nb e)) (Heap.get?_push_of_some _ htb) hge ⟨oc, vs, t, Heap.get?_push_of_some _ hoc, hd, hv⟩
    have nPc : P ≠ c' := ne_of_none hP nC
    have n1 : h'.objs.size ≠ c' := Nat.ne_of_gt hlt
    have n2 : h'.objs.size ≠ P := Nat.ne_of_gt (Nat.lt_of_lt_of_le (Heap.lt_size oP) hsz)
    have hn : upd (upd H P (.tbl (ps ++ #[rawInt pos.line, rawInt pos.col, .ref c']))) c' (LamX.CodeO c' (X.env.qual ++ "<lambda>")) h'.objs.size = none := by
      rw [upd_ne n1, upd_ne n2]
      exact I.hok.fresh hsz
    have ext : ∀ b o, H b = some o → b ≠ P → upd (upd H P (.tbl (ps ++ #[rawInt pos.line, rawInt pos.col, .ref c']))) c' (LamX.CodeO c' (X.env.qual ++ "<lambda>")) b = some o := fun b o e nb => by
      rw [upd_ne (ne_of_none e nC), upd_ne nb]
      exact e
    have eL : (ps ++ #[rawInt pos.line, rawInt pos.col, .ref c']).toList = ps.toList ++ [rawInt pos.line, rawInt pos.col, .ref c'] := by simp
    refine h h'.objs.size c' _ ctv _ _ (adopt J hsz (Heap.get?_push_size _ rfl) hn) hn ⟨upd_same, ⟨_, by rw [upd_ne nPc, upd_same], by rw [eL]; exact PySem.TriplesOk_snoc _ _ _ _ ht, fun p' cv hcv => ?_⟩, ext, fun b e => ?_, fun b o e => ?_⟩
    · rw [eL] at hcv
      rcases LamX.among_app _ ht hcv with z | z
      · obtain ⟨c0, g1, g2⟩ := ha p' cv z
        refine ⟨c0, g1, ext _ _ g2 fun w => ?_⟩
        rw [w, hP] at g2
        exact LamX.codeO_ne ps (Option.some.inj g2).symm
      · exact ⟨c', z, upd_same⟩
    · by_cases q : b = c'
      · rw [q, upd_same] at e
        cases e
      · rw [upd_ne q] at e
        by_cases q2 : b = P
        · rw [q2, upd_same] at e
          cases e
        · rw [upd_ne q2] at e
          exact e
    · by_cases q : b = c'
      · exact .inr (.inr ⟨q, nC⟩)
      · rw [upd_ne q] at e
        by_cases q2 : b = P
        · exact .inr (.inl q2)
        · rw [upd_ne q2] at e
          exact .inl e
end
/-! ### the state behind a lambda's making -/
section
variable {K : PySem.W.Frag} {H H1 : Hp} {m : MH} {loc : Loc} {P c' f : Addr} {q : Str}
theorem MadeL.kp (k : MadeL H H1 P c' q) (s : Sim K H m loc) (hP : P ∈ loc.f.T.map (·.1)) : KpM H m loc H1 m loc := by
  refine ⟨⟨[], by simp⟩, rfl, fun a z => ?_, fun a o e n => ⟨k.ext a o e (fun w => n (.inr (.inr (by rw [w]; exact hP)))), n⟩, fun _ h => .inl h, fun a o e => ?_⟩
  · cases e : H a with
    | some o =>
      by_cases w : a = P
      · obtain ⟨p, hp, e1⟩ := List.mem_map.mp hP
        exact absurd (e1.trans w.symm) (s.zt a z p hp)
      · exact k.ext a o e w
    | none =>
      obtain ⟨o, e2⟩ := s.hid a (.inl z)
      rw [e] at e2
      cases e2
  · by_cases w : a = P
    · obtain ⟨ps, e1, _⟩ := k.tab
      exact ⟨_, by rw [w]; exact e1⟩
    · exact ⟨o, k.ext a o e w⟩
theorem MadeL.tabs (k : MadeL H H1 P c' q) (hTP : LamX.TabS H P q) {b : Addr} {x : Str} (hu : b = P → x = q) (t : LamX.TabS H b x) : LamX.TabS H1 b x := by
  by_cases w : b = P
  · rw [w, hu w]
    exact k.tab
  · obtain ⟨ps, e1, e2, e3⟩ := t
    refine ⟨ps, k.ext _ _ e1 w, e2, fun pos cv hc => ?_⟩
    obtain ⟨c, g1, g2⟩ := e3 pos cv hc
    refine ⟨c, g1, k.ext _ _ g2 fun w2 => ?_⟩
    obtain ⟨ps2, z, _⟩ := hTP
    rw [w2, z] at g2
    exact LamX.codeO_ne ps2 (Option.some.inj g2).symm
theorem MadeL.sim (k : MadeL H H1 P c' q) (s : Sim K H m loc) (hm : (P, q) ∈ loc.f.T) (hu : ∀ p ∈ loc.f.T, p.1 = P → p.2 = q) : Sim K H1 m loc := by
  have hP : P ∈ loc.f.T.map (·.1) := List.mem_map.mpr ⟨_, hm, rfl⟩
  have kp := k.kp s hP
  have eq : ∀ a ∈ loc.l, H1 a = H a := fun a ha => by
    obtain ⟨o, e⟩ := s.old a ha
    rw [e]
    exact k.ext a o e fun w => s.apart a ha (.inr (by rw [w]; exact hP))
  refine ⟨s.len, s.nd, fun a e => ?_, fun a z => ?_, s.apart, fun p hp => k.tabs (s.tab _ hm) (hu p hp) (s.tab p hp), fun a x => ?_, s.fi, fun a z => let ⟨u, e⟩ := s.hk a z; ⟨u, by rw [kp.hide a z]; exact e⟩, fun n c a e1 e2 => (s.cell n c a e1 e2).keep kp (eq a (List.mem_of_getElem? e2))⟩
  · obtain ⟨o, h⟩ := s.old a e
    exact kp.there a o h
  · obtain ⟨o, h⟩ := s.hid a z
    exact kp.there a o h
  · obtain ⟨o, e⟩ := s.xs a x
    refine ⟨o, k.ext a _ e fun w => ?_⟩
    obtain ⟨ps, z, _⟩ := s.tab _ hm
    have z : H P = some (.tbl ps) := z
    rw [w, z] at e
    cases e
end
/-- cells, as they stand -/
def ovOf (as : List Addr) (h : Heap) : List (Addr × Obj) := as.filterMap fun a => (h.get? a).map fun o => (a, o)
theorem lookA_mem {b : Addr} {o : Obj} : ∀ {l : List (Addr × Obj)}, l.lookup b = some o → (b, o) ∈ l
  | [], h => by cases h
  | (c, u) :: r, h => by
    by_cases q : b = c
    · subst q
      simp [List.lookup] at h
      rw [h]
      exact List.mem_cons_self
    · have : (b == c) = false := by simpa using q
      simp [List.lookup, this] at h
      exact List.mem_cons_of_mem _ (lookA_mem h)
theorem memA_look {b : Addr} {o : Obj} : ∀ {l : List (Addr × Obj)}, (b, o) ∈ l → ∃ u, l.lookup b = some u
  | (c, u) :: r, h => by
    by_cases q : b = c
    · subst q
      exact ⟨u, by simp [List.lookup]⟩
    · rcases List.mem_cons.mp h with z | z
      · cases z
        exact absurd rfl q
      · obtain ⟨c', e⟩ := memA_look z
        have : (b == c) = false := by simpa using q
        exact ⟨c', by simp [List.lookup, this, e]⟩
theorem ovOf_at {h : Heap} {as : List Addr} {b : Addr} {o : Obj} (e : (ovOf as h).lookup b = some o) : h.get? b = some o ∧ b ∈ as := by
  obtain ⟨p, hp, e2⟩ := List.mem_filterMap.mp (lookA_mem e)
  obtain ⟨o2, e3, e4⟩ := Option.map_eq_some_iff.mp e2
  cases e4
  exact ⟨e3, hp⟩
theorem ovOf_has {h : Heap} {as : List Addr} {c : Addr} {o : Obj} (hm : c ∈ as) (e : h.get? c = some o) : (ovOf as h).lookup c = some o := by
  obtain ⟨o', h'⟩ := memA_look (l := ovOf as h) (b := c) (o := o) (List.mem_filterMap.mpr ⟨c, hm, by rw [e]; rfl⟩)
  have e1 := (ovOf_at h').1
  rw [e] at e1
  cases e1
  exact h'
theorem ovOf_no {h : Heap} {as : List Addr} {c : Addr} (hm : c ∉ as) : (ovOf as h).lookup c = none := by
  cases q : (ovOf as h).lookup c with
  | none => rfl
  | some o => exact absurd (ovOf_at q).2 hm
theorem uov_uov {O : List (Addr × Obj)} {H : Hp} : un_ov O (un_ov O H) = un_ov O H := funext fun b => by
  cases q : O.lookup b with
  | some o => rw [uov_at q, uov_at q]
  | none => rw [uov_no q]
theorem uov_ov {O : List (Addr × Obj)} {H : Hp} : un_ov O (ov O H) = un_ov O H := funext fun b => by
  cases q : O.lookup b with
  | some o => rw [uov_at q, uov_at q]
  | none => rw [uov_no q, uov_no q, ov_no q]
/-! ### the state at a call with a lambda, and behind it -/
section
variable {K : PySem.W.Frag} {H H2 H' : Hp} {m m' : MH} {loc loc' : Loc} {f : Addr} {O : List (Addr × Obj)} {i : Nat} {ds : List D} {of : Obj}
def Loc.zin (loc : Loc) (f : Addr) (O : List (Addr × Obj)) : Loc := ⟨loc.l ++ [f], { loc.f with x := fun a => loc.f.x a ∨ ∃ o, O.lookup a = some o }⟩
/-- the closure's part: H2 is the state with the function known -/
theorem Sim.zin (s : Sim K H2 m loc) (hO : ∀ b o, O.lookup b = some o → H2 b = none) (hf : H2 f = some (.frz of TT0)) (hfl : f ∉ loc.l) (hfz : ¬ loc.z f)
    (hc : CloR K (ov O H2) (Live (m ++ [.clo i ds true]) (loc.zin f O)) (loc.zin f O) f i ds true) : Sim K (ov O H2) (m ++ [.clo i ds true]) (loc.zin f O) := by
  have hl := s.len
  have live' : ∀ a, Live (m ++ [Cell.clo i ds true]) (loc.zin f O) a → Live m loc a ∨ (∃ o, H2 a = some (.frz o TT0)) ∨ ∃ o, O.lookup a = some o := fun a l => by
    rcases l with ⟨n, c, e1, nd, e2⟩ | l
    · have e2 : (loc.l ++ [f])[n]? = some a := e2
      by_cases q : n < m.length
      · rw [List.getElem?_append_left q] at e1
        rw [List.getElem?_append_left (by omega)] at e2
        exact .inl (.inl ⟨n, c, e1, nd, e2⟩)
      · rw [List.getElem?_append_right (by omega)] at e2
        have z : n - loc.l.length = 0 := by
          have := (List.getElem?_eq_some_iff.mp e2).1
          simp only [List.length_cons, List.length_nil] at this
          omega
        rw [z] at e2
        cases e2
        exact .inr (.inl ⟨of, hf⟩)
    · exact .inl (.inr l)
  have uo : UpOk O H2 (Live m loc) (Live (m ++ [Cell.clo i ds true]) (loc.zin f O)) := ⟨hO, live'⟩
  have ext : ∀ {a : Addr} {u : HO}, H2 a = some u → ov O H2 a = some u := fun e => OvOk.ext hO e
  have noO : ∀ {a : Addr}, (∃ u, H2 a = some u) → O.lookup a = none := fun {a} ⟨u, e⟩ => by
    cases q : O.lookup a with
    | none => rfl
    | some o =>
      rw [hO a o q] at e
      cases e
  have hle : ∀ (n : Nat) (a : Addr), loc.l[n]? = some a → (loc.zin f O).l[n]? = some a := fun n a e => by
    show (loc.l ++ [f])[n]? = some a
    rw [List.getElem?_append_left (List.getElem?_eq_some_iff.mp e).1]
    exact e
  refine ⟨?_, ?_, fun a e => ?_, fun a z => ?_, fun a e z => ?_, fun p hp => tab_up hO (s.tab p hp), fun a x => ?_, ⟨s.fi.T, s.fi.t, s.fi.k⟩, fun a z => let ⟨u, e⟩ := s.hk a z; ⟨u, ext e⟩, fun n c a e1 e2 => ?_⟩
  · show (loc.l ++ [f]).length = _
    rw [List.length_append, List.length_append, hl]
    rfl
  · show (loc.l ++ [f]).Nodup
    rw [List.nodup_append]
    refine ⟨s.nd, by simp, fun a ha b hb => ?_⟩
    have e : b = f := by simpa using hb
    rw [e]
    exact fun z => hfl (z ▸ ha)
  · rcases List.mem_append.mp e with e | e
    · obtain ⟨u, q⟩ := s.old a e
      exact ⟨u, ext q⟩
    · have e : a = f := by simpa using e
      subst e
      exact ⟨_, ext hf⟩
  · obtain ⟨u, q⟩ := s.hid a z
    exact ⟨u, ext q⟩
  · rcases List.mem_append.mp e with e | e
    · exact s.apart a e z
    · have e : a = f := by simpa using e
      subst e
      exact hfz z
  · rcases x with x | ⟨o, x⟩
    · obtain ⟨u, q⟩ := s.xs a x
      exact ⟨u, ext q⟩
    · exact ⟨o, ov_at x⟩
  · have e2 : (loc.l ++ [f])[n]? = some a := e2
    by_cases q : n < m.length
    · rw [List.getElem?_append_left q] at e1
      rw [List.getElem?_append_left (by omega)] at e2
      have r := s.cell n c a e1 e2
      cases c with
      | lst ds =>
        obtain ⟨vs, g1, g2, g3⟩ := r
        exact ⟨vs, ext g1, g2, g3.up (loc := loc) hle uo⟩
      | dic ds =>
        obtain ⟨vs, g1, g3⟩ := r
        exact ⟨vs, ext g1, g3.up (loc := loc) hle uo⟩
      | ins kk fs =>
        obtain ⟨C, dx, vs, g1, g2, g3⟩ := r
        exact ⟨C, dx, vs, g1, ext g2, g3.up (loc := loc) hle uo⟩
      | clo i ds b =>
        have r : CloR K H2 (Live m loc) loc a i ds b := r
        obtain ⟨lam, cl, pm, ctv, c', g1, g2, g3, g4, g5, g6, g7, g8, g9⟩ := r.ex
        have cap : ∀ {ys : List Str} {ds : List D}, CapR K H2 (Live m loc) loc cl b ys ds → CapR K (ov O H2) (Live (m ++ [Cell.clo _ _ true]) (loc.zin f O)) (loc.zin f O) cl b ys ds := fun {ys} => by
          induction ys with
          | nil =>
            intro ds h
            cases ds with
            | nil => exact True.intro
            | cons => exact h.elim
          | cons y ys ih =>
            intro ds h
            cases ds with
            | nil => exact h.elim
            | cons d ds =>
              obtain ⟨⟨c, oc, u, v, f1, f2, f3, f4, f5, f6, f7⟩, t⟩ := h
              have qc := noO ⟨_, f2⟩
              refine ⟨⟨c, oc, u, v, f1, ext f2, ⟨fun l => ?_, fun z => ?_⟩, fun e xx => ?_, f5, f6, f7.up (loc := loc) hle uo⟩, ih t⟩
              · rcases l with ⟨n', c2, e3, nd, e4⟩ | l
                · have e4 : (loc.l ++ [f])[n']? = some c := e4
                  by_cases q2 : n' < m.length
                  · rw [List.getElem?_append_left q2] at e3
                    rw [List.getElem?_append_left (by omega)] at e4
                    exact f3.1 (.inl ⟨n', c2, e3, nd, e4⟩)
                  · rw [List.getElem?_append_right (by omega)] at e4
                    have z : n' - loc.l.length = 0 := by
                      have := (List.getElem?_eq_some_iff.mp e4).1
                      simp only [List.length_cons, List.length_nil] at this
                      omega
                    rw [z] at e4
                    cases e4
                    obtain ⟨lam2, cl2, pm2, ctv2, c2', k1, k2, _⟩ := hc.ex
                    rw [ext f2] at k2
                    injection k2 with k3
                    injection k3 with k4 k5
                    rw [k4] at f5
                    cases f5
                · exact f3.1 (.inr l)
              · rcases List.mem_append.mp z with z | z
                · exact f3.2 z
                · have e : c = f := by simpa using z
                  subst e
                  obtain ⟨lam2, cl2, pm2, ctv2, c2', k1, k2, _⟩ := hc.ex
                  rw [ext f2] at k2
                  injection k2 with k3
                  injection k3 with k4 k5
                  rw [k4] at f5
                  cases f5
              · rcases xx with xx | ⟨o, xx⟩
                · exact f4 e xx
                · rw [qc] at xx
                  cases xx
        exact CloR.mk ⟨lam, cl, pm, ctv, c', g1, ext g2, ext g3, fun l => uo.nl g3 (fun o z => by unfold LamX.CodeO at z; cases z) g4 l, g5, g6, g7, g8, cap g9⟩
      | dead => exact True.intro
    · rw [List.getElem?_append_right (by omega)] at e2
      have z : n - loc.l.length = 0 := by
        have := (List.getElem?_eq_some_iff.mp e2).1
        simp only [List.length_cons, List.length_nil] at this
        omega
      rw [List.getElem?_append_right (by omega), show n - m.length = 0 by omega] at e1
      rw [z] at e2
      cases e1
      cases e2
      exact hc
/-- behind the call: the cells are the frame's own again, the closure is gone -/
theorem Sim.zout {H : Hp} (s : Sim K H2 m loc) (kp2 : KpM H m loc H2 m loc) (hHf : H f = none) (hO : ∀ b o, O.lookup b = some o → H2 b = none) (hfO : O.lookup f = none)
    (s' : Sim K H' m' loc') (k : KpM (ov O H2) (m ++ [.clo i ds true]) (loc.zin f O) H' m' loc') (hst : ov O (un_ov O H') = H') (hz : okz m.length m' = true) :
    Sim K (un_ov O H') (m'.set m.length .dead) ⟨loc'.l, loc.f⟩ ∧ KpM H m loc (un_ov O H') (m'.set m.length .dead) ⟨loc'.l, loc.f⟩ ∧ ∀ {v : V} {d : D}, RepM K H' m' loc' v d → RepM K (un_ov O H') (m'.set m.length .dead) ⟨loc'.l, loc.f⟩ v d := by
  obtain ⟨x, ex⟩ := k.pre
  have ex : loc'.l = (loc.l ++ [f]) ++ x := ex
  have fx : loc'.f = (loc.zin f O).f := k.fx
  have ext : ∀ {a : Addr} {u : HO}, H2 a = some u → ov O H2 a = some u := fun e => OvOk.ext hO e
  have noO : ∀ {a : Addr}, (∃ u, H2 a = some u) → O.lookup a = none := fun {a} ⟨u, e⟩ => by
    cases q : O.lookup a with
    | none => rfl
    | some o =>
      rw [hO a o q] at e
      cases e
  have lv : ∀ a, Live (m'.set m.length .dead) ⟨loc'.l, loc.f⟩ a → Live m' loc' a := fun a l => by
    rcases l with ⟨n, c, e1, nd, e2⟩ | l
    · by_cases q : m.length = n
      · subst q
        rw [List.getElem?_set] at e1
        split at e1
        · split at e1
          · cases e1
            exact absurd rfl nd
          · cases e1
        · exact .inl ⟨_, c, e1, nd, e2⟩
      · rw [List.getElem?_set_ne q] at e1
        exact .inl ⟨n, c, e1, nd, e2⟩
    · refine .inr ?_
      have l : loc.z a := l
      show loc'.f.z a ∨ a ∈ loc'.f.T.map (·.1)
      rw [fx]
      exact l
  have rp : ∀ {v : V} {d : D}, RepM K H' m' loc' v d → RepM K (un_ov O H') (m'.set m.length .dead) ⟨loc'.l, loc.f⟩ v d := fun {v d} r => by
    rw [← hst] at r
    exact Rep.dn (O := O) (H := un_ov O H') (loc := loc') (loc' := ⟨loc'.l, loc.f⟩) rfl lv r
  have rps : ∀ {v : List V} {d : List D}, Reps K H' (Live m' loc') loc' v d → Reps K (un_ov O H') (Live (m'.set m.length .dead) ⟨loc'.l, loc.f⟩) ⟨loc'.l, loc.f⟩ v d := fun {v d} r => by
    rw [← hst] at r
    exact Reps.dn (O := O) (H := un_ov O H') (loc := loc') (loc' := ⟨loc'.l, loc.f⟩) rfl lv r
  have rpk : ∀ {v : List (Key × V)} {d : List (Key × D)}, RepK K H' (Live m' loc') loc' v d → RepK K (un_ov O H') (Live (m'.set m.length .dead) ⟨loc'.l, loc.f⟩) ⟨loc'.l, loc.f⟩ v d := fun {v d} r => by
    rw [← hst] at r
    exact RepK.dn (O := O) (H := un_ov O H') (loc := loc') (loc' := ⟨loc'.l, loc.f⟩) rfl lv r
  have rpf : ∀ {v : List (Str × V)} {d : List (Str × D)}, RepF K H' (Live m' loc') loc' v d → RepF K (un_ov O H') (Live (m'.set m.length .dead) ⟨loc'.l, loc.f⟩) ⟨loc'.l, loc.f⟩ v d := fun {v d} r => by
    rw [← hst] at r
    exact RepF.dn (O := O) (H := un_ov O H') (loc := loc') (loc' := ⟨loc'.l, loc.f⟩) rfl lv r
  -- what is in the larger list lies beside the cells
  have lO : ∀ a ∈ loc'.l, O.lookup a = none := fun a ha => by
    rcases k.new a ha with h | h
    · have h : a ∈ loc.l ++ [f] := h
      rcases List.mem_append.mp h with h | h
      · exact noO (s.old a h)
      · have e : a = f := by simpa using h
        rw [e]
        exact hfO
    · exact (ov_none h).1
  have dn : ∀ {a : Addr} {u : HO}, O.lookup a = none → H' a = some u → un_ov O H' a = some u := fun q e => by
    rw [uov_no q]
    exact e
  have kp : KpM H m loc (un_ov O H') (m'.set m.length .dead) ⟨loc'.l, loc.f⟩ := by
    refine ⟨⟨[f] ++ x, by show loc'.l = _; rw [ex, List.append_assoc]⟩, rfl, fun a z => ?_, fun a o e nl => ?_, fun a e => ?_, fun a o e => ?_⟩
    · have q := noO (s.hid a (.inl z))
      rw [uov_no q, k.hide a z, ov_no q]
      exact kp2.hide a z
    · obtain ⟨e2, nl2⟩ := kp2.keep a o e nl
      have nl3 : ¬ Live (m ++ [Cell.clo i ds true]) (loc.zin f O) a := fun l => by
        rcases l with ⟨n, c, g1, nd, g2⟩ | l
        · have g2 : (loc.l ++ [f])[n]? = some a := g2
          have hl := s.len
          by_cases q : n < m.length
          · rw [List.getElem?_append_left q] at g1
            rw [List.getElem?_append_left (by omega)] at g2
            exact nl2 (.inl ⟨n, c, g1, nd, g2⟩)
          · rw [List.getElem?_append_right (by omega)] at g2
            have z : n - loc.l.length = 0 := by
              have := (List.getElem?_eq_some_iff.mp g2).1
              simp only [List.length_cons, List.length_nil] at this
              omega
            rw [z] at g2
            cases g2
            rw [hHf] at e
            cases e
        · exact nl2 (.inr l)
      obtain ⟨e3, nl4⟩ := k.keep a o (ext e2) nl3
      exact ⟨dn (noO ⟨_, e2⟩) e3, fun l => nl4 (lv a l)⟩
    · have e : a ∈ loc'.l := e
      rcases k.new a e with h | h
      · have h : a ∈ loc.l ++ [f] := h
        rcases List.mem_append.mp h with h | h
        · exact .inl h
        · have e : a = f := by simpa using h
          rw [e]
          exact .inr hHf
      · exact .inr (kp2.back (ov_none h).2)
    · obtain ⟨o2, e2⟩ := kp2.there a o e
      obtain ⟨o3, e3⟩ := k.there a o2 (ext e2)
      exact ⟨o3, dn (noO ⟨_, e2⟩) e3⟩
  refine ⟨⟨by rw [List.length_set]; exact s'.len, s'.nd, fun a e => ?_, fun a z => ?_, fun a e z => ?_, fun p hp => ?_, fun a xx => ?_, s.fi, fun a z => ?_, fun n c a e1 e2 => ?_⟩, kp, rp⟩
  · obtain ⟨o, e2⟩ := s'.old a e
    exact ⟨o, dn (lO a e) e2⟩
  · have z : loc.z a := z
    obtain ⟨o, e2⟩ := s.hid a z
    obtain ⟨o3, e3⟩ := k.there a o (ext e2)
    exact ⟨o3, dn (noO ⟨_, e2⟩) e3⟩
  · refine s'.apart a e ?_
    have z : loc.z a := z
    show loc'.f.z a ∨ a ∈ loc'.f.T.map (·.1)
    rw [fx]
    exact z
  · have t := s'.tab p (by rw [fx]; exact hp)
    rw [← hst] at t
    exact tab_dn t
  · have xx : loc.f.x a := xx
    obtain ⟨o, e2⟩ := s.xs a xx
    obtain ⟨o3, e3⟩ := s'.xs a (by rw [fx]; exact .inl xx)
    exact ⟨o3, dn (noO ⟨_, e2⟩) e3⟩
  · obtain ⟨u, e⟩ := s.hk a z
    refine ⟨u, dn (noO ⟨_, e⟩) ?_⟩
    rw [k.hide a z]
    exact ext e
  · have hc : cloT c = false := by
      have := List.all_eq_true.mp hz c (List.mem_of_getElem? e1)
      simpa using this
    have e0 : m'[n]? = some c ∨ c = .dead := by
      by_cases q : m.length = n
      · subst q
        rw [List.getElem?_set] at e1
        split at e1
        · split at e1
          · cases e1
            exact .inr rfl
          · cases e1
        · exact .inl e1
      · rw [List.getElem?_set_ne q] at e1
        exact .inl e1
    rcases e0 with e0 | e0
    · have r := s'.cell n c a e0 e2
      have q := lO a (List.mem_of_getElem? e2)
      cases c with
      | lst ds =>
        obtain ⟨vs, g1, g2, g3⟩ := r
        exact ⟨vs, dn q g1, g2, rps g3⟩
      | dic ds =>
        obtain ⟨vs, g1, g3⟩ := r
        exact ⟨vs, dn q g1, rpk g3⟩
      | ins kk fs =>
        obtain ⟨C, dx, vs, g1, g2, g3⟩ := r
        rw [fx] at g1
        exact ⟨C, dx, vs, g1, dn q g2, rpf g3⟩
      | clo i2 ds2 b =>
        have hb : b = false := hc
        subst hb
        have r : CloR K H' (Live m' loc') loc' a i2 ds2 false := r
        obtain ⟨lam, cl, pm, ctv, c', g1, g2, g3, g4, g5, g6, g7, g8, g9⟩ := r.ex
        rw [fx] at g1
        have cap : ∀ {ys : List Str} {ds : List D}, CapR K H' (Live m' loc') loc' cl false ys ds → CapR K (un_ov O H') (Live (m'.set m.length .dead) ⟨loc'.l, loc.f⟩) ⟨loc'.l, loc.f⟩ cl false ys ds := fun {ys} => by
          induction ys with
          | nil =>
            intro ds h
            cases ds with
            | nil => exact True.intro
            | cons => exact h.elim
          | cons y ys ih =>
            intro ds h
            cases ds with
            | nil => exact h.elim
            | cons d ds =>
              obtain ⟨⟨c, oc, u, v, f1, f2, f3, f4, f5, f6, f7⟩, t⟩ := h
              have nx := f4 rfl
              rw [fx] at nx
              have qc : O.lookup c = none := by
                cases qc : O.lookup c with
                | none => rfl
                | some o => exact absurd (.inr ⟨o, qc⟩) nx
              exact ⟨⟨c, oc, u, v, f1, dn qc f2, ⟨fun l => f3.1 (lv c l), f3.2⟩, fun _ xx => nx (.inl xx), f5, f6, rp f7⟩, ih t⟩
        refine CloR.mk ⟨lam, cl, pm, ctv, c', g1, dn q g2, dn ?_ g3, fun l => g4 (lv _ l), g5, g6, g7, g8, cap g9⟩
        cases qc : O.lookup c' with
        | none => rfl
        | some o =>
          rw [← hst, ov_at qc] at g3
          unfold LamX.CodeO at g3
          cases g3
      | dead => exact True.intro
    · rw [e0]
      exact True.intro
end
end Mi
/-! Mini: closures called, defs called with a lambda. -/
namespace Mi
open PySem PySem.Spec PyProof.Rows L2
variable [Glb]
/-- a function's code object -/
def CodeAt (h : Heap) (c' : Addr) (q : Str) : Prop := ∃ (oc : Obj) (fs : Array Value) (t : Tok), h.get? c' = some oc ∧ oc.data = .fields fs ∧ fs[1]? = some (.str q t)
/-- the promise of a lambda -/
def LamP (P : Program) (w : World) (Γ : Gam) (mg : Str → Option Value) (base : Heap) (k : Nat) (lam : Lam) (call : List D → MH → R D) : Prop :=
  ∀ (A : Around) (outer : List PySem.Env) (s : Shared) (O : List (Addr × Obj)) (H : Hp) (f c' : Addr) (cl : List (Str × Addr)) (pm ctv : Value) (us : List Value) (vs ws : List V) (dargs dcap : List D) (m : MH) (loc : Loc) (E : XK) (Q : VK),
    Room k A → Env0 P w Γ.K mg base A outer s (ov O H) → OvOk O H s.heap (frs outer) → s.heap.get? f = some (lam.obj cl pm c' ctv) → CodeAt s.heap c' lam.q → ClOk lam cl ws H s.heap → Vals vs us →
    Sim Γ.K H m loc → Reps Γ.K H (Live m loc) loc vs dargs → Reps Γ.K H (Live m loc) loc ws dcap → Po Γ (fun c d H' => NoO O H' → E c d (ov O H')) H m loc (rlD Γ) (call (dargs ++ dcap) m) (fun v H' => NoO O H' → Q v (ov O H')) →
    codeAny (model P w) A (.call (.ref f) ⟨us, []⟩) (CR (L2N.CX P w) outer P w (ov O H) s Q E) s
section
variable {K : PySem.W.Frag} {H : Hp} {L : Addr → Prop} {loc : Loc} {cl : List (Str × Addr)} {b : Bool}
theorem CapR.vals : ∀ {ys : List Str} {ds : List D}, CapR K H L loc cl b ys ds → ∃ ws : List V, ws.length = ys.length ∧ Reps K H L loc ws ds ∧ ∀ (i : Nat) (y : Str) (v : V), ys[i]? = some y → ws[i]? = some v → ∃ c oc u, cl.lookup y = some c ∧ H c = some (.frz oc TT0) ∧ oc.data = .cell (some u) ∧ RelV v u
  | [], [], _ => ⟨[], rfl, .nil, fun i y v h _ => by simp at h⟩
  | [], _ :: _, h => h.elim
  | _ :: _, [], h => h.elim
  | y :: ys, d :: ds, ⟨⟨c, oc, u, v, h1, h2, h3, h4, h5, h6, h7⟩, t⟩ => by
    obtain ⟨ws, e1, e2, e3⟩ := CapR.vals t
    refine ⟨v :: ws, congrArg (· + 1) e1, .cons h7 e2, fun i y' v' g1 g2 => ?_⟩
    cases i with
    | zero =>
      simp at g1 g2
      subst g1 g2
      exact ⟨c, oc, u, h1, h2, h5, h6⟩
    | succ i => exact e3 i y' v' (by simpa using g1) (by simpa using g2)
theorem CapR.adr : ∀ {ys : List Str} {ds : List D}, CapR K H L loc cl b ys ds → ∀ y ∈ ys, ∃ c oc u, cl.lookup y = some c ∧ H c = some (.frz oc TT0) ∧ oc.data = .cell (some u) ∧ ¬ L c ∧ c ∉ loc.l
  | [], [], _, y, hy => by cases hy
  | [], _ :: _, h, _, _ => h.elim
  | _ :: _, [], h, _, _ => h.elim
  | y :: ys, d :: ds, ⟨⟨c, oc, u, v, h1, h2, h3, h4, h5, h6, h7⟩, t⟩, z, hz => by
    rcases List.mem_cons.mp hz with q | q
    · rw [q]
      exact ⟨c, oc, u, h1, h2, h5, h3.1, h3.2⟩
    · exact CapR.adr t z q
end
section
variable {X : Cx} {Γ : Gam} {G : Nat → Option D} {C : Call} {x : Str} {p pos : Pos}
/-- what is known of lambdas where one may be called -/
structure LamsAt (X : Cx) (Γ : Gam) (C : Call) : Prop where
  w : ∀ (i : Nat) (lam : Lam), Glb.t[i]? = some lam → LamW lam
  p : ∀ (i : Nat) (lam : Lam), Glb.t[i]? = some lam → ∃ k, Room k X.A ∧ LamP X.prog X.w Γ X.mg X.base k lam (C (LB + i))
/-- the closure in slot i runs: from the state s1 on -/
theorem clo_call {W : WX} {pins : List (Addr × Obj)} {σ : L2.St} {H : Hp} {s1 : Shared} {Q : VK} {m : MH} {loc : Loc} {f : Addr} {n li : Nat} {cs dargs : List D} {b : Bool} {us : List Value} {vs : List V} (hK : X.K = Γ.K) (hL : LamsAt X Γ C) (tk : L2N.Takes X W)
    (I : Inv X pins σ H s1) (sm : Sim Γ.K H m loc) (hm : m[n]? = some (.clo li cs b)) (hl : loc.l[n]? = some f) (r : Vals vs us) (rs : Reps Γ.K H (Live m loc) loc vs dargs)
    (p : Po Γ (fun c d H => W c d σ H) H m loc (rlD Γ) (cloIn m (C (LB + li) (dargs ++ cs) (killC m))) Q) : wpAny (model X.prog X.w) X.A (call (.ref f) us) (EP X pins σ Q) X.xe s1 := by
  have hc : CloR Γ.K H (Live m loc) loc f li cs b := sm.cell n _ f hm hl
  obtain ⟨lam, cl, pm, ctv, c', g1, g2, g3, g4, g5, g6, g7, g8, g9⟩ := hc.ex
  rw [sm.fi.t] at g1
  obtain ⟨ws, e1, e2, e3⟩ := g9.vals
  have adr := g9.adr
  obtain ⟨k, hr, lp⟩ := hL.p li lam g1
  have W1 := hL.w li lam g1
  generalize hys : lam.N.drop lam.ps.length = ys at *
  -- the cells, as an overlay
  obtain ⟨as, has⟩ : ∃ as, as = ys.filterMap fun y => cl.lookup y := ⟨_, rfl⟩
  have hO : ∀ c o, (ovOf as s1.heap).lookup c = some o → H c = some (.frz o TT0) ∧ (∃ u, o.data = .cell (some u)) ∧ ¬ Live m loc c ∧ c ∉ loc.l := fun c o e => by
    obtain ⟨h1, h2⟩ := ovOf_at e
    rw [has] at h2
    obtain ⟨y, hy, hc⟩ := List.mem_filterMap.mp h2
    obtain ⟨c2, oc, u, k1, k2, k3, k4, k5⟩ := adr y hy
    rw [hc] at k1
    cases k1
    have := (I.hok c _ k2).1
    rw [h1] at this
    cases this
    exact ⟨k2, ⟨u, k3⟩, k4, k5⟩
  have hin : ∀ y ∈ ys, ∀ c, cl.lookup y = some c → ∃ oc u, (ovOf as s1.heap).lookup c = some oc ∧ oc.data = .cell (some u) ∧ H c = some (.frz oc TT0) := fun y hy c hc => by
    obtain ⟨c2, oc, u, k1, k2, k3, _⟩ := adr y hy
    rw [hc] at k1
    cases k1
    exact ⟨oc, u, ovOf_has (by rw [has]; exact List.mem_filterMap.mpr ⟨y, hy, hc⟩) (I.hok c _ k2).1, k3, k2⟩
  generalize hOO : ovOf as s1.heap = O at hO hin
  have hov : ov O (un_ov O H) = H := funext fun c => by
    cases q : O.lookup c with
    | some o =>
      rw [ov_at q]
      exact (hO c o q).1.symm
    | none => rw [ov_no q, uov_no q]
  have hno : NoO O (un_ov O H) := fun c o e => uov_at e
  have ko : OvOk O (un_ov O H) s1.heap (frs X.stack) := ⟨fun c o e => (I.hok c _ (hO c o e).1).1, hno, fun c o e hb => by
    have := I.stkFree c hb
    rw [(hO c o e).1] at this
    cases this⟩
  have hl0 : ∀ a ∈ loc.l, O.lookup a = none := fun a ha => by
    cases q : O.lookup a with
    | none => rfl
    | some o => exact absurd ha (hO a o q).2.2.2
  have hz0 : ∀ a, loc.z a → O.lookup a = none := fun a ha => by
    cases q : O.lookup a with
    | none => rfl
    | some o => exact absurd (.inr ha) (hO a o q).2.2.1
  have sm2 : Sim Γ.K (ov O (un_ov O H)) m loc := by rw [hov]; exact sm
  have sk := sm2.kill hl0 hz0
  have code : CodeAt s1.heap c' lam.q := (I.hok c' _ g3).1
  have hNl : lam.N.length = lam.ps.length + ws.length := by
    have h1 := congrArg List.length W1.pre
    rw [List.length_take] at h1
    rw [e1, ← hys, List.length_drop]
    omega
  have rc := lp X.A X.stack s1 O (un_ov O H) f c' cl pm ctv us vs ws dargs cs (killC m) (loc.less O) (fun c d H => W c d σ H) Q hr (by rw [hov, ← hK]; exact I.env0) ko (I.hok f _ g2).1 code
    ⟨g5, fun y hy => by
      obtain ⟨c2, oc, u, k1, _⟩ := adr y (g6 y hy)
      exact ⟨c2, k1⟩, fun y c hc => by
      obtain ⟨oc, u, k1, k2, k3⟩ := hin y (g7 y c hc) c hc
      exact ⟨⟨some u, oc, (I.hok c _ k3).1, k2⟩, uov_at k1⟩, hNl, fun i y v h1 h2 => by
      have h3 : ys[i]? = some y := by
        rw [← hys, List.getElem?_drop]
        exact h1
      obtain ⟨c, oc, u, k1, k2, k3, k4⟩ := e3 i y v h3 h2
      exact ⟨u, c, g8 y (List.mem_of_getElem? h3), k4, k1, oc, (I.hok c _ k2).1, k3⟩⟩ r sk ?_ ?_ ?_
  · refine wpAny_call (codeAny_mono rc fun r s' hq => ?_)
    rw [hov] at hq
    cases r with
    | error e => exact L2N.passAt tk σ pins H s1 e s' I hq
    | ok fl =>
      cases fl with
      | ret u => exact I.after hq
      | next => exact False.elim hq
      | brk => exact False.elim hq
      | cont => exact False.elim hq
  · rw [← hov] at rs
    exact Reps.dn (O := O) (H := un_ov O H) (loc := loc) (loc' := loc.less O) rfl (fun _ l => live_kill l) rs
  · rw [← hov] at e2
    exact Reps.dn (O := O) (H := un_ov O H) (loc := loc) (loc' := loc.less O) rfl (fun _ l => live_kill l) e2
  · have p' : Po Γ (fun c d H => W c d σ H) (ov O (un_ov O H)) m loc (rlD Γ) (cloIn m (C (LB + li) (dargs ++ cs) (killC m))) Q := by rw [hov]; exact p
    cases hr2 : C (LB + li) (dargs ++ cs) (killC m) with
    | stuck =>
      rw [hr2] at p'
      exact p'
    | ok d m' =>
      rw [hr2] at p'
      intro v H' loc' s' k' rl no
      obtain ⟨a1, a2, a3⟩ := sm2.revive hl0 hz0 hno no s' k'
      exact p' v _ _ a1 a2 (a3 rl)
    | exc xx m' =>
      rw [hr2] at p'
      intro H' loc' s' k' cls d hx no
      obtain ⟨a1, a2, a3⟩ := sm2.revive hl0 hz0 hno no s' k'
      exact p' _ _ a1 a2 cls d (Γ.up _ _ _ _ _ no hx)
theorem cc_cases {W : Value → Option Addr → Hp → Prop} {H : Hp} {m m0 : MH} {loc : Loc} {env : Env} {i : Nat} {ds : List D} {Q : VK} (p : Po Γ W H m0 loc (rlD Γ) (match env[i]? with
    | some (some (.ref n)) => (match m[n]? with
      | some (.clo li cs _) => cloIn m (C (LB + li) (ds ++ cs) (killC m))
      | _ => .stuck)
    | _ => .stuck) Q) : ∃ n li cs b, env[i]? = some (some (.ref n)) ∧ m[n]? = some (.clo li cs b) ∧ Po Γ W H m0 loc (rlD Γ) (cloIn m (C (LB + li) (ds ++ cs) (killC m))) Q := by
  cases e1 : env[i]? with
  | none =>
    rw [e1] at p
    exact (show False from p).elim
  | some o =>
    cases o with
    | none =>
      rw [e1] at p
      exact (show False from p).elim
    | some d =>
      rw [e1] at p
      cases d with
      | ref n =>
        dsimp only at p
        cases e2 : m[n]? with
        | none =>
          rw [e2] at p
          exact (show False from p).elim
        | some c =>
          rw [e2] at p
          cases c with
          | clo li cs b => exact ⟨n, li, cs, b, rfl, e2, p⟩
          | _ => exact (show False from p).elim
      | _ => exact (show False from p).elim
theorem se_cc0 {i : Nat} (hK : X.K = Γ.K) (hN : X.N[i]? = some x) (hv : Vis X.env.scope x) (hdb : (x == ("__debug__" : Str)) = false) (hcd : (x == ("__classdict__" : Str)) = false) (hL : LamsAt X Γ C) :
    SE Γ X (.Call (.Name x p) [] [] pos) (eval G C (.cc i [])) := fun W tk => ⟨fun pins s σ H Q I ⟨env, m, loc, A, q⟩ => by
  obtain ⟨n, li, cs, b, h1, h2, q⟩ := cc_cases (show Po Γ (fun c d H => W c d σ H) H m loc (rlD Γ) (match env[i]? with
    | some (some (.ref n)) => (match m[n]? with
      | some (.clo li cs _) => cloIn m (C (LB + li) ([] ++ cs) (killC m))
      | _ => .stuck)
    | _ => .stuck) Q from q)
  obtain ⟨v, hs, rv⟩ := A.2.at_ i _ h1
  cases rv with
  | ref hl =>
    rename_i f
    refine wpAny_Call_Name_kw (thn ((pe_var (pos := p) hN hv hdb hcd).run pins s σ H (fun v H1 => v = .ref f ∧ H1 = H) I ⟨.ref f, hs, rfl, rfl⟩) fun u s1 ⟨v, H1, I1, r1, q1⟩ => ?_)
    obtain ⟨rfl, rfl⟩ := q1
    cases r1
    have hc : CloR Γ.K H1 (Live m loc) loc f li cs b := A.1.cell n _ f h2 hl
    obtain ⟨lam, cl, pm, ctv, c', g1, g2, _⟩ := hc.ex
    refine PySem.W.callWith_F0 ⟨_, _, _, _, (I1.hok f _ g2).1⟩ ?_
    exact clo_call (vs := []) (dargs := []) hK hL tk I1 A.1 h2 hl .nil .nil q⟩
/-- what is known where lambdas are made -/
structure MakesAt (X : Cx) (Γ : Gam) : Prop where
  ex : ∃ c P, LamX.TabB X.base X.mg c P ∧ X.env.code = .ref c ∧ (P, X.env.qual ++ "<lambda>") ∈ Glb.T Γ.K ∧ ∀ p ∈ Glb.T Γ.K, p.1 = P → p.2 = X.env.qual ++ "<lambda>"
/-- a lambda's text here, its captured names in slots -/
structure LamHere (X : Cx) (lam : Lam) (pa : Arguments) (body : Expr) (scope : Scope) (caps : List Nat) : Prop where
  q : lam.q = X.env.qual ++ "<lambda>"
  hpa : lam.pa = pa
  bd : lam.body = body
  sc : lam.scope = scope
  df : defaultsOf pa X.env = ([], [])
  /-- captured here: a cell of this def -/
  fr : ∀ y ∈ scope.names, y.2 = .free → y.1 ∈ lam.N.drop lam.ps.length
  cp : ∀ y ∈ lam.N.drop lam.ps.length, (scope.names.lookup y = some .free ∧ (y, NameKind.free) ∈ scope.names) ∧ X.env.scope.names.lookup y = some .cell ∧ X.fn y = true
  at_ : (lam.N.drop lam.ps.length).map some = caps.map fun i => X.N[i]?
theorem capsD_at {env : Env} : ∀ {is : List Nat} {ds : List D}, capsD env is = some ds → ds.length = is.length ∧ ∀ (j i : Nat) (d : D), is[j]? = some i → ds[j]? = some d → env[i]? = some (some d)
  | [], ds, h => by
    cases h
    exact ⟨rfl, fun j i d h1 _ => by simp at h1⟩
  | i :: is, ds, h => by
    have h : (match env[i]? with
      | some (some d) => (capsD env is).map (d :: ·)
      | _ => none) = some ds := h
    cases e : env[i]? with
    | none =>
      rw [e] at h
      cases h
    | some o =>
      cases o with
      | none =>
        rw [e] at h
        cases h
      | some d =>
        rw [e] at h
        obtain ⟨ds2, h1, h2⟩ := Option.map_eq_some_iff.mp h
        subst h2
        obtain ⟨l1, l2⟩ := capsD_at h1
        refine ⟨congrArg (· + 1) l1, fun j i' d' g1 g2 => ?_⟩
        cases j with
        | zero =>
          simp at g1 g2
          subst g1 g2
          exact e
        | succ j => exact l2 j i' d' (by simpa using g1) (by simpa using g2)
theorem capR_of {K : PySem.W.Frag} {H : Hp} {L : Addr → Prop} {loc : Loc} {cl : List (Str × Addr)} : ∀ {ys : List Str} {ds : List D}, ys.length = ds.length → (∀ (j : Nat) (y : Str) (d : D), ys[j]? = some y → ds[j]? = some d → ∃ (c : Addr) (oc : Obj) (u : Value) (v : V), cl.lookup y = some c ∧ H c = some (.frz oc TT0) ∧ (¬ L c ∧ c ∉ loc.l) ∧ oc.data = .cell (some u) ∧ RelV v u ∧ Rep K H L loc v d) → CapR K H L loc cl true ys ds
  | [], [], _, _ => True.intro
  | [], _ :: _, h, _ => by cases h
  | _ :: _, [], h, _ => by cases h
  | y :: ys, d :: ds, h, k => by
    obtain ⟨c, oc, u, v, h1, h2, h3, h5, h6, h7⟩ := k 0 y d rfl rfl
    exact ⟨⟨c, oc, u, v, h1, h2, h3, (fun z => by cases z), h5, h6, h7⟩, capR_of (by simpa using h) fun j y' d' g1 g2 => k (j + 1) y' d' (by simpa using g1) (by simpa using g2)⟩
theorem uov_ov_no {O : List (Addr × Obj)} {H : Hp} (h : NoO O H) : un_ov O (ov O H) = H := funext fun b => by
  cases q : O.lookup b with
  | some o => rw [uov_at q, h b o q]
  | none => rw [uov_no q, ov_no q]
theorem se_clz {f i : Nat} {caps : List Nat} {lam : Lam} {pa : Arguments} {body : Expr} {scope : Scope} {lpos : Pos} (hK : X.K = Γ.K) (F : FnAt X Γ x 1 (C f)) (M : MakesAt X Γ) (hi : Glb.t[i]? = some lam) (h : LamHere X lam pa body scope caps) :
    SE Γ X (.Call (.Name x p) [.Lambda pa body scope lpos] [] pos) (eval G C (.clz f i caps)) := fun W tk => ⟨fun pins s σ H Q I ⟨env, m, loc, A, q⟩ => by
  obtain ⟨k, g, fd, ps, hm, hk, hb, hr, FO⟩ := F.fn
  obtain ⟨c, P, TB, hcode, hP, hu⟩ := M.ex
  have q : Po Γ (fun c d H => W c d σ H) H m loc (rlD Γ) (match capsD env caps with
    | some cs => cloOut m.length (C f [.ref m.length] (m ++ [.clo i cs true]))
    | none => .stuck) Q := q
  cases hcs : capsD env caps with
  | none =>
    rw [hcs] at q
    exact (show False from q).elim
  | some cs =>
  rw [hcs] at q
  dsimp only at q
  obtain ⟨cl1, cl2⟩ := capsD_at hcs
  have sm := A.1
  have hPl : (P, X.env.qual ++ "<lambda>") ∈ loc.f.T := by rw [sm.fi.T]; exact hP
  have hul : ∀ p ∈ loc.f.T, p.1 = P → p.2 = X.env.qual ++ "<lambda>" := by rw [sm.fi.T]; exact hu
  have hTP := sm.tab _ hPl
  have hcell : ∀ y ∈ lam.N.drop lam.ps.length, ∃ c, X.env.cells.lookup y = some c := fun y hy => I.ok.has y (.inl (h.cp y hy).2.1)
  have hfree : ∀ y ∈ scope.names, y.2 = .free → ∃ c, X.env.cells.lookup y.1 = some c := fun y hy e => hcell _ (h.fr y hy e)
  refine wpAny_Call_Name_kw (ld_glob I F.gl hm ?_ F.nd)
  refine PySem.W.callWith_K (h₀ := X.base) I.ok.mod.kin hk ?_ (by rfl) (by rfl)
  show wpAny _ _ (spliced ((false, PySem.eval (.Lambda pa body scope lpos) X.env) :: backTo pos (starEach [] X.env))) _ _ s
  refine Calls.spliced_cons (lam_new I TB hcode hTP h.df hfree fun fa c' pm ctv H1 s1 I1 hfn md => ?_)
  refine Calls.spliced_nil ⟨I1.kIn, ?_⟩
  -- the closure's cells
  generalize hof : PySem.W.kla_obj "<lambda>" (X.env.qual ++ "<lambda>") pa body scope (cloFrom X.env.cells scope.names []) pm c' ctv = of at I1
  have hof2 : of = lam.obj (cloFrom X.env.cells lam.scope.names []) pm c' ctv := by
    rw [← hof]
    show _ = PySem.W.kla_obj "<lambda>" lam.q lam.pa lam.body lam.scope (cloFrom X.env.cells lam.scope.names []) pm c' ctv
    rw [h.q, h.hpa, h.bd, h.sc]
  generalize hcl : cloFrom X.env.cells scope.names [] = cl at *
  have cm : ∀ {y c}, cl.lookup y = some c → (y, NameKind.free) ∈ scope.names ∧ X.env.cells.lookup y = some c := fun {y c} e => by
    have hmem := PySem.mem_of_lookup e
    rw [← hcl] at hmem
    rcases cloFrom_mem hmem with z | ⟨z1, z2⟩
    · cases z
    · obtain ⟨c1, hc1⟩ := hfree _ z1 rfl
      have hc1 : X.env.cells.lookup y = some c1 := hc1
      refine ⟨z1, ?_⟩
      rw [z2, hc1] <;> rfl
  have look : ∀ {y}, y ∈ lam.N.drop lam.ps.length → ∃ c, cl.lookup y = some c := fun {y} hy => by
    have := (h.cp y hy).1.2
    have z := cloFrom_has (cells := X.env.cells) (acc := []) this
    rw [hcl] at z
    exact mem_lookup z
  obtain ⟨as, has⟩ : ∃ as, as = (lam.N.drop lam.ps.length).filterMap fun y => cl.lookup y := ⟨_, rfl⟩
  have hO : ∀ c o, (ovOf as s1.heap).lookup c = some o → s1.heap.get? c = some o ∧ ∃ y ∈ lam.N.drop lam.ps.length, cl.lookup y = some c ∧ X.env.cells.lookup y = some c := fun c o e => by
    obtain ⟨h1, h2⟩ := ovOf_at e
    rw [has] at h2
    obtain ⟨y, hy, hc⟩ := List.mem_filterMap.mp h2
    exact ⟨h1, y, hy, hc, (cm hc).2⟩
  have hin : ∀ y ∈ lam.N.drop lam.ps.length, ∀ c o, cl.lookup y = some c → s1.heap.get? c = some o → (ovOf as s1.heap).lookup c = some o := fun y hy c o hc e => ovOf_has (by rw [has]; exact List.mem_filterMap.mpr ⟨y, hy, hc⟩) e
  generalize hOO : ovOf as s1.heap = O at hO hin
  generalize hH2 : upd H1 fa (.frz of TT0) = H2 at I1
  have hfa : H2 fa = some (.frz of TT0) := by rw [← hH2]; exact upd_same
  have hno : NoO O H2 := fun c o e => by
    obtain ⟨_, y, _, _, hc⟩ := hO c o e
    exact I1.freeC y c hc
  have ko : OvOk O H2 s1.heap (frs X.stack) := ⟨fun c o e => (hO c o e).1, hno, fun c o e hbf => by
    obtain ⟨_, y, hy, _, hc⟩ := hO c o e
    have hge := I1.ok.cab y c (h.cp y hy).2.2 hc
    rcases List.mem_cons.mp (I1.stkSub c hbf) with z | z
    · exact I1.cne y c hc z
    · obtain ⟨_, o2, ho2, _⟩ := I1.ok.funs.mem z
      exact Nat.lt_irrefl _ (Nat.lt_of_lt_of_le (Heap.lt_size ho2) hge)⟩
  have hbase : ∀ b o, X.base.get? b = some o → O.lookup b = none := fun b o e => by
    cases z : O.lookup b with
    | none => rfl
    | some o2 =>
      obtain ⟨_, y, hy, _, hc⟩ := hO b o2 z
      have hge := I1.ok.cab y b (h.cp y hy).2.2 hc
      exact absurd (Nat.lt_of_lt_of_le (Heap.lt_size e) (Nat.le_trans I1.ok.bsz hge)) (Nat.lt_irrefl _)
  -- the state
  have s1m := md.sim sm hPl hul
  have k1 := md.kp sm (List.mem_map.mpr ⟨_, hPl, rfl⟩)
  have s2m : Sim Γ.K H2 m loc := by rw [← hH2]; exact s1m.new hfn
  have k2 : KpM H m loc H2 m loc := by rw [← hH2]; exact k1.trans (kp_new hfn s1m)
  have hHf : H fa = none := md.back _ hfn
  have hfl : fa ∉ loc.l := fun z => by
    obtain ⟨o, e⟩ := sm.old fa z
    rw [hHf] at e
    cases e
  have hfz : ¬ loc.z fa := fun z => by
    obtain ⟨o, e⟩ := sm.hid fa z
    rw [hHf] at e
    cases e
  have hfO : O.lookup fa = none := by
    cases z : O.lookup fa with
    | none => rfl
    | some o =>
      rw [hno fa o z] at hfa
      cases hfa
  have lv : ∀ a, Live (m ++ [Cell.clo i cs true]) (loc.zin fa O) a → Live m loc a ∨ a = fa := fun a l => by
    rcases l with ⟨n, c, e1, nd, e2⟩ | l
    · have e2 : (loc.l ++ [fa])[n]? = some a := e2
      have hl := sm.len
      by_cases w : n < m.length
      · rw [List.getElem?_append_left w] at e1
        rw [List.getElem?_append_left (by omega)] at e2
        exact .inl (.inl ⟨n, c, e1, nd, e2⟩)
      · rw [List.getElem?_append_right (by omega)] at e2
        have z : n - loc.l.length = 0 := by
          have := (List.getElem?_eq_some_iff.mp e2).1
          simp only [List.length_cons, List.length_nil] at this
          omega
        rw [z] at e2
        cases e2
        exact .inr rfl
    · exact .inl (.inr l)
  have uo : UpOk O H2 (Live m loc) (Live (m ++ [Cell.clo i cs true]) (loc.zin fa O)) := ⟨hno, fun a l => by
    rcases lv a l with l | l
    · exact .inl l
    · rw [l]
      exact .inr (.inl ⟨of, hfa⟩)⟩
  have hle : ∀ (n : Nat) (a : Addr), loc.l[n]? = some a → (loc.zin fa O).l[n]? = some a := fun n a e => by
    show (loc.l ++ [fa])[n]? = some a
    rw [List.getElem?_append_left (List.getElem?_eq_some_iff.mp e).1]
    exact e
  have hys : (lam.N.drop lam.ps.length).length = cs.length := by
    have := congrArg List.length h.at_
    simpa [cl1] using this
  have nO : ∀ {c : Addr}, H2 c = none → ¬ Live (m ++ [Cell.clo i cs true]) (loc.zin fa O) c ∧ c ∉ (loc.zin fa O).l := fun {c} e => by
    refine ⟨fun l => ?_, fun l => ?_⟩
    · rcases lv c l with l | l
      · exact s2m.no e l
      · rw [l, hfa] at e
        cases e
    · rcases List.mem_append.mp (show c ∈ loc.l ++ [fa] from l) with z | z
      · obtain ⟨o, e2⟩ := s2m.old c z
        rw [e] at e2
        cases e2
      · have z : c = fa := by simpa using z
        rw [z, hfa] at e
        cases e
  have hc' : H2 c' = some (LamX.CodeO c' lam.q) := by
    rw [← hH2, upd_ne (fun z => by
      have := md.code
      rw [z, hfn] at this
      cases this), h.q]
    exact md.code
  have nlc : ¬ Live m loc c' := fun l => by
    rcases l with ⟨n, c0, e1, nd, e2⟩ | l | l
    · have r := s2m.cell n c0 c' e1 e2
      cases hk2 : isClo c0 with
      | false => exact (s2m.kind e1 nd e2 hk2).1 _ hc'
      | true =>
        cases c0 with
        | clo _ _ _ =>
          obtain ⟨_, _, _, _, _, _, z, _⟩ := (show CloR Γ.K H2 (Live m loc) loc c' _ _ _ from r).ex
          rw [hc'] at z
          unfold LamX.CodeO at z
          cases z
        | _ => cases hk2
    · obtain ⟨xs, z⟩ := s2m.hk c' l
      rw [hc'] at z
      unfold LamX.CodeO at z
      cases z
    · obtain ⟨pp, hpp, z⟩ := List.mem_map.mp l
      obtain ⟨ps2, z2, _⟩ := s2m.tab pp hpp
      rw [z, hc'] at z2
      exact LamX.codeO_ne ps2 (Option.some.inj z2)
  have cloR : CloR Γ.K (ov O H2) (Live (m ++ [.clo i cs true]) (loc.zin fa O)) (loc.zin fa O) fa i cs true := by
    refine ⟨lam, cl, pm, ctv, c', ?_, ?_, OvOk.ext hno hc', ?_, fun y z c e1 e2 => I1.ok.inj y z c (cm e1).2 (cm e2).2, fun y hy => ?_, fun y c e => h.fr _ (cm e).1 rfl, fun y hy => by rw [h.sc]; exact (h.cp y hy).1.1, capR_of hys fun j y d e1 e2 => ?_⟩
    · show loc.f.t[i]? = some lam
      rw [sm.fi.t]
      exact hi
    · rw [OvOk.ext hno hfa, hof2, h.sc, hcl]
    · intro l
      rcases lv c' l with l | l
      · exact nlc l
      · rw [l, hfa] at hc'
        unfold LamX.CodeO at hc'
        cases hc'
    · rw [h.sc] at hy
      exact h.fr (y, .free) (PySem.mem_of_lookup hy) rfl
    · have hym := List.mem_of_getElem? e1
      obtain ⟨c, hc⟩ := look hym
      have hcc := (cm hc).2
      -- the slot
      have hsl : ∃ ix, caps[j]? = some ix ∧ X.N[ix]? = some y := by
        have := congrArg (fun l => l[j]?) h.at_
        simp only [List.getElem?_map, e1, Option.map_some] at this
        cases z : caps[j]? with
        | none =>
          rw [z] at this
          cases this
        | some ix =>
          rw [z] at this
          exact ⟨ix, rfl, (Option.some.inj this).symm⟩
      obtain ⟨ix, z1, z2⟩ := hsl
      have hd := cl2 j ix d z1 e2
      obtain ⟨v, hv1, hv2⟩ := A.2.at_ ix d hd
      have hkind := (h.cp y hym).2.1
      obtain ⟨mm, hns, hloc⟩ := I1.loc
      obtain ⟨u, ru, lk⟩ := hloc ix y v z2 hv1 (.inr (.inl hkind))
      have hcellu : s1.heap.IsCell c (some u) := by
        rcases lk with ⟨k0, _⟩ | ⟨_, c2, e3, z⟩
        · have k0 : X.env.scope.names.lookup y = some .local := k0
          rw [hkind] at k0
          cases k0
        · rw [hcc] at e3
          cases e3
          exact z
      obtain ⟨oc, ho, hdat⟩ := hcellu
      have hoO := hin y hym c oc hc ho
      exact ⟨c, oc, u, v, hc, ov_at hoO, nO (hno c oc hoO), hdat, ru, (hv2.mono k2).up (loc := loc) hle uo⟩
  have s3 := s2m.zin hno hfa hfl hfz cloR
  -- the callee
  have stO : ∀ {H' : Hp} {m' : MH} {loc' : Loc}, KpM (ov O H2) (m ++ [.clo i cs true]) (loc.zin fa O) H' m' loc' → ov O (un_ov O H') = H' := fun {H' m' loc'} kk => funext fun b => by
    cases z : O.lookup b with
    | some o =>
      rw [ov_at z]
      exact (kk.keep b _ (ov_at z) (nO (hno b o z)).1).1.symm
    | none => rw [ov_no z, uov_no z]
  have po : Po Γ (fun c d H' => W c d σ (un_ov O H')) (ov O H2) (m ++ [.clo i cs true]) (loc.zin fa O) (rlD Γ) (C f [.ref m.length] (m ++ [.clo i cs true])) (fun v H' => Q v (un_ov O H')) := by
    cases hrr : C f [.ref m.length] (m ++ [.clo i cs true]) with
    | stuck =>
      rw [hrr] at q
      exact (show False from q).elim
    | ok d m' =>
      rw [hrr] at q
      have q : Po Γ (fun c d H => W c d σ H) H m loc (rlD Γ) (if okz m.length m' then .ok d (m'.set m.length .dead) else .stuck) Q := q
      cases z : okz m.length m' with
      | false =>
        rw [z] at q
        exact (show False from q).elim
      | true =>
        rw [z, if_pos rfl] at q
        intro v H' loc' s' k' rl
        obtain ⟨a1, a2, a3⟩ := s2m.zout k2 hHf hno hfO s' k' (stO k') z
        exact q v _ _ a1 a2 (a3 rl)
    | exc xx m' =>
      rw [hrr] at q
      have q : Po Γ (fun c d H => W c d σ H) H m loc (rlD Γ) (if okz m.length m' then .exc xx (m'.set m.length .dead) else .stuck) Q := q
      cases z : okz m.length m' with
      | false =>
        rw [z] at q
        exact (show False from q).elim
      | true =>
        rw [z, if_pos rfl] at q
        intro H' loc' s' k' cls d hx
        obtain ⟨a1, a2, a3⟩ := s2m.zout k2 hHf hno hfO s' k' (stO k') z
        exact q _ _ a1 a2 cls d (Γ.dn _ _ _ _ O (by rw [stO k']; exact hx))
  have hsp : spF Γ 1 (C f) [.ref fa] (ov O H2) (fun v H' => Q v (un_ov O H')) (fun c d H' => W c d σ (un_ov O H')) := ⟨rfl, [.ref m.length], m ++ [.clo i cs true], loc.zin fa O, s3, .cons (.ref (by
    show (loc.l ++ [fa])[m.length]? = some fa
    rw [List.getElem?_append_right (by rw [sm.len]; exact Nat.le_refl _), sm.len]
    simp)) .nil, po⟩
  have rc := FO.run X.A X.stack s1 (ov O H2) ⟨[.ref fa], []⟩ [.ref fa] [.ref fa] _ _ hr (env0_up I1.env0 ko hbase) (hb s1 [.ref fa] I1.kIn (FO.len _ _ _ _ hsp)) (.cons rfl .nil) hsp
  refine wpAny_call (codeAny_mono rc fun r s' hq => ?_)
  have hq := cr_dn ko hq
  have hq2 : CR (L2N.CX X.prog X.w) X.stack X.prog X.w H2 s1 Q (fun c d H' => W c d σ H') r s' := by
    cases r with
    | error e =>
      obtain ⟨a, B, H', cls, d, e1, fl, hok, ub, na, os, bare, z1, z2⟩ := hq
      exact ⟨a, B, H', cls, d, e1, fl, hok, ub, na, os, bare, by rw [uov_ov_no z1] at z2; exact z2⟩
    | ok fl =>
      cases fl with
      | ret u =>
        obtain ⟨v, H', os, bare, un, hok, rv, z1, z2⟩ := hq
        exact ⟨v, H', os, bare, un, hok, rv, by rw [uov_ov_no z1] at z2; exact z2⟩
      | _ => exact hq
  cases r with
  | error e => exact L2N.passAt tk σ pins H2 s1 e s' I1 hq2
  | ok fl =>
    cases fl with
    | ret u => exact I1.after hq2
    | next => exact False.elim hq2
    | brk => exact False.elim hq2
    | cont => exact False.elim hq2⟩
end
end Mi
/-! Mini: a def that returns a list of lambdas. -/
namespace Mi
open PySem PySem.Spec PyProof.Rows L2
variable [Glb]
/-- a function that was made: its address, its code object's, its name, itself -/
structure Mf where
  f : Addr
  c : Addr
  q : Str
  o : Obj
structure MkS (K : PySem.W.Frag) (H0 : Hp) (m : MH) (loc : Loc) (H : Hp) (fs : List Mf) : Prop where
  s0 : Sim K H0 m loc
  sim : Sim K H m loc
  kp : KpM H0 m loc H m loc
  eq : ∀ a ∈ loc.l, H a = H0 a
  at_ : ∀ a ∈ fs, H a.f = some (.frz a.o TT0) ∧ H a.c = some (LamX.CodeO a.c a.q) ∧ H0 a.f = none
  nd : (fs.map (·.f)).Nodup
/-- the function is this lambda, its cells those of the maker -/
def FnIs (cells : List (Str × Addr)) (lam : Lam) (a : Mf) : Prop := a.q = lam.q ∧ ∃ pm ctv, a.o = lam.obj (cloFrom cells lam.scope.names []) pm a.c ctv
def EltR (H0 : Hp) (H : Hp) (v : V) (e : MkE) (a : Mf) : Prop := match e.w with
  | none => v = .ref a.f
  | some w => ∃ t, v = .ref t ∧ H t = some (.tup [.str w, .ref a.f]) ∧ H0 t = none
inductive MkL (cells : List (Str × Addr)) (H0 H : Hp) : List V → List MkE → List Mf → Prop
  | nil : MkL cells H0 H [] [] []
  | cons {v : V} {vs : List V} {e : MkE} {es : List MkE} {a : Mf} {fs : List Mf} {lam : Lam} : Glb.t[e.i]? = some lam → FnIs cells lam a → EltR H0 H v e a → MkL cells H0 H vs es fs → MkL cells H0 H (v :: vs) (e :: es) (a :: fs)
theorem MkS.new {K : PySem.W.Frag} {H0 H : Hp} {m : MH} {loc : Loc} {fs : List Mf} {p : Addr} {o : HO} (s : MkS K H0 m loc H fs) (h : H p = none) : MkS K H0 m loc (upd H p o) fs :=
  ⟨s.s0, s.sim.new h, s.kp.trans (kp_new h s.sim), fun a ha => (upd_ne (s.sim.ne h ha)).trans (s.eq a ha), fun a ha => let ⟨e1, e2, e3⟩ := s.at_ a ha; ⟨upd_new h _ _ e1, upd_new h _ _ e2, e3⟩, s.nd⟩
theorem extN_upd {H : Hp} {p : Addr} {o : HO} (h : H p = none) : LamX.ExtN H (upd H p o) := fun b u e _ => upd_new h _ _ e
theorem EltR.ext {H0 H H' : Hp} {v : V} {e : MkE} {a : Mf} (x : LamX.ExtN H H') (h : EltR H0 H v e a) : EltR H0 H' v e a := by
  unfold EltR at h ⊢
  cases q : e.w with
  | none =>
    rw [q] at h
    exact h
  | some w =>
    rw [q] at h
    obtain ⟨t, e1, e2, e3⟩ := h
    exact ⟨t, e1, x _ _ e2 (fun ps z => by cases z), e3⟩
theorem MkL.ext {cells : List (Str × Addr)} {H0 H H' : Hp} (x : LamX.ExtN H H') : ∀ {vs : List V} {es : List MkE} {fs : List Mf}, MkL cells H0 H vs es fs → MkL cells H0 H' vs es fs
  | _, _, _, .nil => .nil
  | _, _, _, .cons h1 h2 h3 t => .cons h1 h2 (h3.ext x) (MkL.ext x t)
section
variable {X : Cx} {Γ : Gam}
/-- one lambda is made -/
def tMk1 (Γ : Gam) (cells : List (Str × Addr)) (lam : Lam) : TE := fun _ H Q => ∃ H0 m loc fs, MkS Γ.K H0 m loc H fs ∧ ∀ a H', MkS Γ.K H0 m loc H' (fs ++ [a]) → LamX.ExtN H H' → FnIs cells lam a → Q (.ref a.f) H'
theorem pe_mk1 {lam : Lam} {pa : Arguments} {body : Expr} {scope : Scope} {lpos : Pos} {caps : List Nat} (M : MakesAt X Γ) (h : LamHere X lam pa body scope caps) : PE X (.Lambda pa body scope lpos) (tMk1 Γ X.env.cells lam) := ⟨fun pins s σ H Q I ⟨H0, m, loc, fs, ms, q⟩ => by
  obtain ⟨c, P, TB, hcode, hP, hu⟩ := M.ex
  have sm := ms.sim
  have hPl : (P, X.env.qual ++ "<lambda>") ∈ loc.f.T := by rw [sm.fi.T]; exact hP
  have hul : ∀ p ∈ loc.f.T, p.1 = P → p.2 = X.env.qual ++ "<lambda>" := by rw [sm.fi.T]; exact hu
  have hTP := sm.tab _ hPl
  obtain ⟨pt, hPt, _⟩ := id hTP
  have hPt : H P = some (.tbl pt) := hPt
  have hfree : ∀ y ∈ scope.names, y.2 = .free → ∃ c, X.env.cells.lookup y.1 = some c := fun y hy e => I.ok.has y.1 (.inl (h.cp _ (h.fr y hy e)).2.1)
  refine lam_new I TB hcode hTP h.df hfree fun fa c' pm ctv H1 s1 I1 hfn md => ?_
  have s1m := md.sim sm hPl hul
  have k1 := md.kp sm (List.mem_map.mpr ⟨_, hPl, rfl⟩)
  have hHf : H fa = none := md.back _ hfn
  have ext : LamX.ExtN H H1 := fun b o e n => md.ext b o e fun w => n pt (by rw [w, hPt] at e; exact (Option.some.inj e).symm)
  refine ⟨.ref fa, _, I1, rfl, q ⟨fa, c', lam.q, lam.obj (cloFrom X.env.cells lam.scope.names []) pm c' ctv⟩ _ ⟨ms.s0, s1m.new hfn, ms.kp.trans (k1.trans (kp_new hfn s1m)), fun a ha => ?_, fun a ha => ?_, ?_⟩ (ext.trans (extN_upd hfn)) ⟨rfl, pm, ctv, rfl⟩⟩
  · rw [upd_ne (s1m.ne hfn ha), ← ms.eq a ha]
    obtain ⟨o, e⟩ := sm.old a ha
    rw [e]
    exact md.ext a o e fun w => sm.apart a ha (.inr (List.mem_map.mpr ⟨_, hPl, w.symm⟩))
  · rcases List.mem_append.mp ha with ha | ha
    · obtain ⟨e1, e2, e3⟩ := ms.at_ a ha
      refine ⟨upd_new hfn _ _ (ext _ _ e1 (fun ps z => by cases z)), upd_new hfn _ _ (ext _ _ e2 (fun ps z => by unfold LamX.CodeO at z; cases z)), e3⟩
    · have e : a = ⟨fa, c', lam.q, lam.obj (cloFrom X.env.cells lam.scope.names []) pm c' ctv⟩ := by simpa using ha
      subst e
      refine ⟨?_, ?_, ms.kp.back hHf⟩
      · show upd H1 fa _ fa = _
        rw [upd_same]
        show some (HO.frz (PySem.W.kla_obj "<lambda>" (X.env.qual ++ "<lambda>") pa body scope (cloFrom X.env.cells scope.names []) pm c' ctv) TT0) = some (HO.frz (PySem.W.kla_obj "<lambda>" lam.q lam.pa lam.body lam.scope (cloFrom X.env.cells lam.scope.names []) pm c' ctv) TT0)
        rw [h.q, h.hpa, h.bd, h.sc]
      · show upd H1 fa _ c' = _
        rw [upd_ne (fun z => by
          have := md.code
          rw [z, hfn] at this
          cases this), h.q]
        exact md.code
  · rw [List.map_append, List.nodup_append]
    refine ⟨ms.nd, by simp, fun x hx y hy => ?_⟩
    obtain ⟨a, ha, rfl⟩ := List.mem_map.mp hx
    have e : y = fa := by simpa using hy
    rw [e]
    intro z
    have := (ms.at_ a ha).1
    rw [z, hHf] at this
    cases this⟩
/-- the text of an item -/
inductive MkT1 (X : Cx) : Expr → MkE → Prop
  | lam {pa : Arguments} {body : Expr} {scope : Scope} {lpos : Pos} {i : Nat} {caps : List Nat} {lam : Lam} : Glb.t[i]? = some lam → LamHere X lam pa body scope caps → MkT1 X (.Lambda pa body scope lpos) ⟨none, i, caps⟩
  | tup {pa : Arguments} {body : Expr} {scope : Scope} {lpos p1 p2 : Pos} {j kk i : Nat} {caps : List Nat} {w : Str} {lam : Lam} : Glb.t[i]? = some lam → LamHere X lam pa body scope caps → MkT1 X (.Tuple [.Constant (.str w) j p1, .Lambda pa body scope lpos] kk p2) ⟨some w, i, caps⟩
inductive MkT (X : Cx) : List Expr → List MkE → Prop
  | nil : MkT X [] []
  | cons {e : Expr} {es : List Expr} {k : MkE} {ks : List MkE} : MkT1 X e k → MkT X es ks → MkT X (e :: es) (k :: ks)
def tMkE (Γ : Gam) (cells : List (Str × Addr)) (e : MkE) : TE := fun _ H Q => ∃ H0 m loc fs, MkS Γ.K H0 m loc H fs ∧ ∀ v a H' lam, MkS Γ.K H0 m loc H' (fs ++ [a]) → LamX.ExtN H H' → Glb.t[e.i]? = some lam → FnIs cells lam a → EltR H0 H' v e a → Q v H'
def tMkA (Γ : Gam) (cells : List (Str × Addr)) (es : List MkE) : TA := fun _ H Q => ∃ H0 m loc fs, MkS Γ.K H0 m loc H fs ∧ ∀ vs fs1 H', MkS Γ.K H0 m loc H' (fs ++ fs1) → LamX.ExtN H H' → MkL cells H0 H' vs es fs1 → Q vs H'
theorem pe_mkE (M : MakesAt X Γ) {e : Expr} {k : MkE} (h : MkT1 X e k) : PE X e (tMkE Γ X.env.cells k) := by
  cases h with
  | lam hi h => exact wkE (pe_mk1 M h) fun σ H Q ⟨H0, m, loc, fs, ms, q⟩ => ⟨H0, m, loc, fs, ms, fun a H' ms' x fi => q _ a H' _ ms' x hi fi rfl⟩
  | tup hi h =>
    refine wkE (pe_tup (pa_cons pe_str (pa_cons (pe_mk1 M h) pa_nil rfl) rfl)) fun σ H Q ⟨H0, m, loc, fs, ms, q⟩ => ?_
    refine ⟨H0, m, loc, fs, ms, fun a H' ms' x fi => ⟨by show 2 ≤ sizeLine; decide, fun p hp => q _ a _ _ (ms'.new hp) (x.trans (extN_upd hp)) hi fi ⟨p, rfl, upd_same, ms'.kp.back hp⟩⟩⟩
theorem MkT1.plain {e : Expr} {k : MkE} (h : MkT1 X e k) : plainE e = true := by
  cases h <;> rfl
theorem pa_mk (M : MakesAt X Γ) : ∀ {es : List Expr} {ks : List MkE}, MkT X es ks → PA X es (tMkA Γ X.env.cells ks)
  | _, _, .nil => wkA pa_nil fun σ H Q ⟨H0, m, loc, fs, ms, q⟩ => q [] [] H (by rw [List.append_nil]; exact ms) (LamX.ExtN.refl H) .nil
  | _, _, .cons h t => by
    refine wkA (pa_cons (pe_mkE M h) (pa_mk M t) (starEach_cons h.plain)) fun σ H Q ⟨H0, m, loc, fs, ms, q⟩ => ?_
    refine ⟨H0, m, loc, fs, ms, fun v a H1 lam ms1 x1 hi fi el => ⟨H0, m, loc, fs ++ [a], ms1, fun vs fs1 H2 ms2 x2 l => ?_⟩⟩
    rw [List.append_assoc] at ms2
    exact q (v :: vs) (a :: fs1) H2 ms2 (x1.trans x2) (.cons hi fi (el.ext x2) l)
end
end Mi
/-! Mini: a maker's end: its cells are known from then on. -/
namespace Mi
open PySem PySem.Spec PyProof.Rows L2
variable [Glb]
theorem mkCs_len {env : Env} : ∀ {es : List MkE} {cs : List Cell}, mkCs env es = some cs → cs.length = es.length
  | [], cs, h => by
    cases h
    rfl
  | e :: es, cs, h => by
    obtain ⟨c, h1, h2⟩ := Option.bind_eq_some_iff.mp (show (capsD env e.caps).bind (fun cs => (mkCs env es).map (.clo e.i cs false :: ·)) = some cs from h)
    obtain ⟨cs2, h3, h4⟩ := Option.map_eq_some_iff.mp h2
    subst h4
    exact congrArg (· + 1) (mkCs_len h3)
theorem mkCs_at {env : Env} : ∀ {es : List MkE} {cs : List Cell} {j : Nat} {e : MkE}, mkCs env es = some cs → es[j]? = some e → ∃ ds, capsD env e.caps = some ds ∧ cs[j]? = some (.clo e.i ds false)
  | [], cs, j, e, h, h2 => by simp at h2
  | e :: es, cs, j, e', h, h2 => by
    obtain ⟨c, h1, h3⟩ := Option.bind_eq_some_iff.mp (show (capsD env e.caps).bind (fun cs => (mkCs env es).map (.clo e.i cs false :: ·)) = some cs from h)
    obtain ⟨cs2, h4, h5⟩ := Option.map_eq_some_iff.mp h3
    subst h5
    cases j with
    | zero =>
      simp at h2
      subst h2
      exact ⟨c, h1, rfl⟩
    | succ j => exact mkCs_at (j := j) h4 (by simpa using h2)
theorem MkL.length {cells : List (Str × Addr)} {H0 H : Hp} : ∀ {vs : List V} {es : List MkE} {fs : List Mf}, MkL cells H0 H vs es fs → vs.length = es.length ∧ fs.length = es.length
  | _, _, _, .nil => ⟨rfl, rfl⟩
  | _, _, _, .cons _ _ _ t => ⟨congrArg (· + 1) t.length.1, congrArg (· + 1) t.length.2⟩
theorem MkL.at_ {cells : List (Str × Addr)} {H0 H : Hp} : ∀ {vs : List V} {es : List MkE} {fs : List Mf} {j : Nat} {a : Mf}, MkL cells H0 H vs es fs → fs[j]? = some a → ∃ e v lam, es[j]? = some e ∧ vs[j]? = some v ∧ Glb.t[e.i]? = some lam ∧ FnIs cells lam a ∧ EltR H0 H v e a
  | _, _, _, j, a, .nil, h => by simp at h
  | _, _, _, 0, a, .cons h1 h2 h3 t, h => by
    simp at h
    subst h
    exact ⟨_, _, _, rfl, rfl, h1, h2, h3⟩
  | _, _, _, j + 1, a, .cons h1 h2 h3 t, h => MkL.at_ (j := j) t (by simpa using h)
section
variable {K : PySem.W.Frag} {H0 H : Hp} {m : MH} {loc : Loc} {fs : List Mf} {O : List (Addr × Obj)} {env : Env} {es : List MkE} {cs : List Cell} {vs : List V} {cells : List (Str × Addr)}
theorem capR_ofF {L : Addr → Prop} {cl : List (Str × Addr)} : ∀ {ys : List Str} {ds : List D}, ys.length = ds.length → (∀ (j : Nat) (y : Str) (d : D), ys[j]? = some y → ds[j]? = some d → ∃ (c : Addr) (oc : Obj) (u : Value) (v : V), cl.lookup y = some c ∧ H c = some (.frz oc TT0) ∧ (¬ L c ∧ c ∉ loc.l) ∧ ¬ loc.f.x c ∧ oc.data = .cell (some u) ∧ RelV v u ∧ Rep K H L loc v d) → CapR K H L loc cl false ys ds
  | [], [], _, _ => True.intro
  | [], _ :: _, h, _ => by cases h
  | _ :: _, [], h, _ => by cases h
  | y :: ys, d :: ds, h, k => by
    obtain ⟨c, oc, u, v, h1, h2, h3, h4, h5, h6, h7⟩ := k 0 y d rfl rfl
    exact ⟨⟨c, oc, u, v, h1, h2, h3, fun _ => h4, h5, h6, h7⟩, capR_ofF (by simpa using h) fun j y' d' g1 g2 => k (j + 1) y' d' (by simpa using g1) (by simpa using g2)⟩
def Loc.mk2 (loc : Loc) (fs : List Mf) : Loc := ⟨loc.l ++ fs.map (·.f), loc.f⟩
/-- what the cells of the maker are -/
structure CapO (K : PySem.W.Frag) (H0 : Hp) (m : MH) (loc : Loc) (cells : List (Str × Addr)) (O : List (Addr × Obj)) (env : Env) (es : List MkE) : Prop where
  inj : ∀ x y c, cells.lookup x = some c → cells.lookup y = some c → x = y
  lam : ∀ e ∈ es, ∀ lam ds, Glb.t[e.i]? = some lam → capsD env e.caps = some ds →
    (∀ y, lam.scope.names.lookup y = some .free → y ∈ lam.N.drop lam.ps.length) ∧ (∀ y ∈ lam.scope.names, y.2 = .free → y.1 ∈ lam.N.drop lam.ps.length) ∧ (∀ y ∈ lam.N.drop lam.ps.length, lam.scope.names.lookup y = some .free) ∧
    (lam.N.drop lam.ps.length).length = ds.length ∧ ∀ (j : Nat) (y : Str) (d : D), (lam.N.drop lam.ps.length)[j]? = some y → ds[j]? = some d → ∃ (c : Addr) (oc : Obj) (u : Value) (v : V), cells.lookup y = some c ∧ (cloFrom cells lam.scope.names []).lookup y = some c ∧ O.lookup c = some oc ∧ oc.data = .cell (some u) ∧ RelV v u ∧ Rep K H0 (Live m loc) loc v d
  mem : ∀ e ∈ es, ∀ lam, Glb.t[e.i]? = some lam → ∀ y c, (cloFrom cells lam.scope.names []).lookup y = some c → cells.lookup y = some c ∧ y ∈ lam.N.drop lam.ps.length
theorem Sim.nlCode {c' : Addr} {q : Str} (s : Sim K H m loc) (h : H c' = some (LamX.CodeO c' q)) : ¬ Live m loc c' := fun l => by
  rcases l with ⟨n, c0, e1, nd, e2⟩ | l | l
  · have r := s.cell n c0 c' e1 e2
    cases hk2 : isClo c0 with
    | false => exact (s.kind e1 nd e2 hk2).1 _ h
    | true =>
      cases c0 with
      | clo _ _ _ =>
        obtain ⟨_, _, _, _, _, _, z, _⟩ := (show CloR K H (Live m loc) loc c' _ _ _ from r).ex
        rw [h] at z
        unfold LamX.CodeO at z
        cases z
      | _ => cases hk2
  · obtain ⟨xs, z⟩ := s.hk c' l
    rw [h] at z
    unfold LamX.CodeO at z
    cases z
  · obtain ⟨pp, hpp, z⟩ := List.mem_map.mp l
    obtain ⟨ps2, z2, _⟩ := s.tab pp hpp
    rw [z, h] at z2
    exact LamX.codeO_ne ps2 (Option.some.inj z2)
theorem mk_reps {H2 : Hp} {L2' : Addr → Prop} {loc2 : Loc} (ext : ∀ (a : Addr) (u : HO), H a = some u → H2 a = some u) (nl : ∀ (t : Addr) (xs : List V), H t = some (.tup xs) → H0 t = none → ¬ L2' t) : ∀ {n : Nat} {vs : List V} {es : List MkE} {fs : List Mf}, MkL cells H0 H vs es fs → (∀ j x, fs[j]? = some x → loc2.l[n + j]? = some x.f) → Reps K H2 L2' loc2 vs (mkRefs n es)
  | _, _, _, _, .nil, _ => .nil
  | n, _, _, _, .cons (e := e) (a := a) h1 h2 h3 t, hp => by
    refine .cons ?_ (mk_reps ext nl (n := n + 1) t fun j x h => by
      have := hp (j + 1) x (by simpa using h)
      rw [show n + 1 + j = n + (j + 1) by omega]
      exact this)
    have hr : loc2.l[n]? = some a.f := hp 0 a rfl
    unfold EltR at h3
    unfold mkRef
    cases q : e.w with
    | none =>
      rw [q] at h3
      have h3 : _ = V.ref a.f := h3
      rw [h3]
      exact .ref hr
    | some w =>
      rw [q] at h3
      obtain ⟨p, e1, e2, e3⟩ := h3
      rw [e1]
      exact .tup (.inl ⟨.inl (ext _ _ e2), nl p _ e2 e3⟩) (by show 2 ≤ LIM; decide) (.cons (.str w) (.cons (.ref hr) .nil))
theorem mk_fin (s : MkS K H0 m loc H fs) (l : MkL cells H0 H vs es fs) (hcs : mkCs env es = some cs) (hO : NoO O H) (cap : CapO K H0 m loc cells O env es) :
    Sim K (ov O H) (m ++ cs) (loc.mk2 fs) ∧ KpM H0 m loc (ov O H) (m ++ cs) (loc.mk2 fs) ∧ (∀ (a : Addr) (us : List V), H a = some (.lst us) → H0 a = none → ¬ Live (m ++ cs) (loc.mk2 fs) a) ∧ Reps K (ov O H) (Live (m ++ cs) (loc.mk2 fs)) (loc.mk2 fs) vs (mkRefs m.length es) := by
  have hl := s.sim.len
  have hfc : fs.length = cs.length := by rw [l.length.2, mkCs_len hcs]
  have fr : ∀ a ∈ fs, H a.f = some (.frz a.o TT0) ∧ H a.c = some (LamX.CodeO a.c a.q) ∧ H0 a.f = none := s.at_
  -- where a place is
  have pl : ∀ {n : Nat} {c : Cell} {a : Addr}, (m ++ cs)[n]? = some c → (loc.mk2 fs).l[n]? = some a → (m[n]? = some c ∧ loc.l[n]? = some a) ∨ ∃ j x, n = m.length + j ∧ cs[j]? = some c ∧ fs[j]? = some x ∧ x.f = a := fun {n c a} h1 h2 => by
    have h2 : (loc.l ++ fs.map (·.f))[n]? = some a := h2
    by_cases q : n < m.length
    · rw [List.getElem?_append_left q] at h1
      rw [List.getElem?_append_left (by omega)] at h2
      exact .inl ⟨h1, h2⟩
    · rw [List.getElem?_append_right (by omega)] at h1 h2
      rw [List.getElem?_map] at h2
      obtain ⟨x, e1, e2⟩ := Option.map_eq_some_iff.mp h2
      exact .inr ⟨n - m.length, x, by omega, h1, by rw [← hl]; exact e1, e2⟩
  have lv : ∀ a, Live (m ++ cs) (loc.mk2 fs) a → Live m loc a ∨ ∃ x ∈ fs, x.f = a := fun a h => by
    rcases h with ⟨n, c, e1, nd, e2⟩ | h
    · rcases pl e1 e2 with ⟨g1, g2⟩ | ⟨j, x, _, _, g1, g2⟩
      · exact .inl (.inl ⟨n, c, g1, nd, g2⟩)
      · exact .inr ⟨x, List.mem_of_getElem? g1, g2⟩
    · exact .inl (.inr h)
  have ext : ∀ {a : Addr} {u : HO}, H a = some u → ov O H a = some u := fun e => OvOk.ext hO e
  have n0 : ∀ x ∈ fs, x.f ∉ loc.l ∧ ¬ loc.z x.f := fun x hx => by
    have h0 := (fr x hx).2.2
    refine ⟨fun z => ?_, fun z => ?_⟩
    · obtain ⟨o, e⟩ := s.s0.old x.f z
      rw [h0] at e
      cases e
    · obtain ⟨o, e⟩ := s.s0.hid x.f z
      rw [h0] at e
      cases e
  have noO : ∀ {a : Addr}, (∃ u, H a = some u) → O.lookup a = none := fun {a} ⟨u, e⟩ => by
    cases q : O.lookup a with
    | none => rfl
    | some o =>
      rw [hO a o q] at e
      cases e
  have kp0 : KpM H0 m loc (ov O H) (m ++ cs) (loc.mk2 fs) := by
    refine ⟨⟨fs.map (·.f), rfl⟩, rfl, fun a z => ?_, fun a o e nl => ?_, fun a h => ?_, fun a o e => ?_⟩
    · obtain ⟨o, e⟩ := s.s0.hid a (.inl z)
      have e2 := s.kp.hide a z
      rw [e] at e2
      rw [ext e2, e]
    · obtain ⟨e1, e2⟩ := s.kp.keep a o e nl
      refine ⟨ext e1, fun h => ?_⟩
      rcases lv a h with h | ⟨x, h1, rfl⟩
      · exact e2 h
      · rw [(fr x h1).2.2] at e
        cases e
    · have h : a ∈ loc.l ++ fs.map (·.f) := h
      rcases List.mem_append.mp h with h | h
      · exact .inl h
      · obtain ⟨x, h1, rfl⟩ := List.mem_map.mp h
        exact .inr (fr x h1).2.2
    · obtain ⟨o2, e2⟩ := s.kp.there a o e
      exact ⟨o2, ext e2⟩
  refine ⟨⟨?_, ?_, fun a h => ?_, fun a h => ?_, fun a h z => ?_, fun p hp => tab_up hO (s.sim.tab p hp), fun a x => let ⟨u, e⟩ := s.sim.xs a x; ⟨u, ext e⟩, ⟨s.sim.fi.T, s.sim.fi.t, s.sim.fi.k⟩, fun a z => let ⟨u, e⟩ := s.sim.hk a z; ⟨u, ext e⟩, fun n c a e1 e2 => ?_⟩, kp0, fun a us e1 e0 h => ?_, mk_reps (fun _ _ e => ext e) (fun p xs e1 e0 h => ?_) l fun j x h => ?_⟩
  · show (loc.l ++ fs.map (·.f)).length = _
    rw [List.length_append, List.length_append, List.length_map, hl, hfc]
  · show (loc.l ++ fs.map (·.f)).Nodup
    rw [List.nodup_append]
    refine ⟨s.sim.nd, s.nd, fun a ha b hb e => ?_⟩
    obtain ⟨x, h1, h2⟩ := List.mem_map.mp hb
    exact (n0 x h1).1 (by rw [h2, ← e]; exact ha)
  · rcases List.mem_append.mp (show a ∈ loc.l ++ fs.map (·.f) from h) with h | h
    · obtain ⟨o, e⟩ := s.sim.old a h
      exact ⟨o, ext e⟩
    · obtain ⟨x, h1, rfl⟩ := List.mem_map.mp h
      exact ⟨_, ext (fr x h1).1⟩
  · obtain ⟨o, e⟩ := s.sim.hid a h
    exact ⟨o, ext e⟩
  · rcases List.mem_append.mp (show a ∈ loc.l ++ fs.map (·.f) from h) with h | h
    · exact s.sim.apart a h z
    · obtain ⟨x, h1, rfl⟩ := List.mem_map.mp h
      exact (n0 x h1).2 z
  · rcases pl e1 e2 with ⟨g1, g2⟩ | ⟨j, x, _, g1, g2, rfl⟩
    · refine (s.s0.cell n c a g1 g2).keep kp0 ?_
      have hm := List.mem_of_getElem? g2
      obtain ⟨o, e⟩ := s.sim.old a hm
      rw [ext e, ← s.eq a hm, e]
    · obtain ⟨e, v, lam, f1, f2, f3, ⟨f4, pm, ctv, f5⟩, f6⟩ := l.at_ g2
      obtain ⟨ds, k1, k2⟩ := mkCs_at hcs f1
      rw [g1] at k2
      cases k2
      have hx := List.mem_of_getElem? g2
      have he := List.mem_of_getElem? f1
      obtain ⟨c1, c2, c3, c4, c5⟩ := cap.lam e he lam ds f3 k1
      have hm := cap.mem e he lam f3
      refine CloR.mk ⟨lam, cloFrom cells lam.scope.names [], pm, ctv, x.c, ?_, ?_, ?_, fun h => ?_, fun y z c h1 h2 => cap.inj y z c (hm y c h1).1 (hm z c h2).1, c1, fun y c h => (hm y c h).2, c3, ?_⟩
      · show loc.f.t[e.i]? = some lam
        rw [s.sim.fi.t]
        exact f3
      · rw [ext (fr x hx).1, f5]
      · rw [ext (fr x hx).2.1, f4]
      · rcases lv _ h with h | ⟨y, h1, h2⟩
        · exact s.sim.nlCode (fr x hx).2.1 h
        · have := (fr y h1).1
          rw [h2, (fr x hx).2.1] at this
          unfold LamX.CodeO at this
          cases this
      · have nOc : ∀ {c : Addr}, H c = none → ¬ Live (m ++ cs) (loc.mk2 fs) c ∧ c ∉ (loc.mk2 fs).l := fun {c} hc => by
          refine ⟨fun h => ?_, fun h => ?_⟩
          · rcases lv c h with h | ⟨y, h1, h2⟩
            · exact s.sim.no hc h
            · have := (fr y h1).1
              rw [h2, hc] at this
              cases this
          · rcases List.mem_append.mp (show c ∈ loc.l ++ fs.map (·.f) from h) with h | h
            · obtain ⟨o, e⟩ := s.sim.old c h
              rw [hc] at e
              cases e
            · obtain ⟨y, h1, h2⟩ := List.mem_map.mp h
              have := (fr y h1).1
              rw [h2, hc] at this
              cases this
        refine capR_ofF c4 fun j y d h1 h2 => ?_
        obtain ⟨c, oc, u, v, q1, q2, q3, q4, q5, q6⟩ := c5 j y d h1 h2
        have hc := hO c oc q3
        refine ⟨c, oc, u, v, q2, ov_at q3, nOc hc, fun xx => ?_, q4, q5, q6.mono kp0⟩
        obtain ⟨o, e⟩ := s.sim.xs c xx
        rw [hc] at e
        cases e
  · rcases lv a h with h | ⟨x, h1, rfl⟩
    · exact s.s0.no e0 h
    · rw [(fr x h1).1] at e1
      cases e1
  · rcases lv p h with h | ⟨x, h1, rfl⟩
    · exact s.s0.no e0 h
    · rw [(fr x h1).1] at e1
      cases e1
  · show (loc.l ++ fs.map (·.f))[m.length + j]? = some x.f
    rw [List.getElem?_append_right (by omega), List.getElem?_map, show m.length + j - loc.l.length = j by omega, h]
    rfl
end
end Mi
/-! Mini: instances: fields, methods, own operators, new ones. -/
namespace Mi
open PySem PySem.Spec PyProof.Rows L2
variable [Glb]
/-! ### the library's side -/
section
variable {X : Cx} {CX : CXT} {k : Nat} {f C : Addr} {fd : FuncData} {ps : List Str} {sp : Sp} {E : L2.St → XK} {pins : List (Addr × Obj)} {σ : L2.St} {H : Hp} {s : Shared} {Q : VK} {a b o e : Expr} {es : List Expr} {pos apos p : Pos} {ta tb : TE} {t : TA}
/-- the callee runs, here or further in -/
theorem run_at {A : Around} {us : List Value} {vs : List V} {E0 : XK} (F : FnOk X.prog X.w X.K X.mg X.base CX k f fd ps sp) (hr : Room k A) (e0 : Env0 X.prog X.w X.K X.mg X.base A X.stack s H) (hb : Binds X.K fd ps [])
    (hx : PassesAt CX X σ E0) (I : Inv X pins σ H s) (r : Vals vs us) (h : sp vs H Q E0) : wpAny (model X.prog X.w) A (call (.ref f) us) (EP X pins σ Q) X.xe s := by
  have hl : (us ++ []).length = ps.length := by rw [List.append_nil, ← r.length]; exact F.len _ _ _ _ h
  have hB := hb s us I.kIn hl
  rw [List.append_nil] at hB
  refine wpAny_call (codeAny_mono (F.run A X.stack s H ⟨us, []⟩ us vs Q E0 hr e0 hB r h) fun z s' q => ?_)
  match z, q with
  | .error er, q => exact hx pins H s er s' I q
  | .ok (.ret u), q => exact I.after q
theorem form_of {env : PySem.Env} (h : (backTo pos (starEach es env)).any (·.1) = false) (hl : es.length < 30) : methodCallForm es.length (backTo pos (starEach es env)) [] = true := by
  unfold methodCallForm
  rw [show ((backTo pos (starEach es env)).all fun x => !x.1) = true from by rw [List.all_eq_not_any_not]; simpa using h]
  simp [hl]
theorem meth_eval {m : Str} {env : PySem.Env} (hn : noSup o = true) (hli : (apos.endLine == pos.line) = true) (hf : methodCallForm es.length (backTo pos (starEach es env)) [] = true) :
    PySem.eval (.Call (.Attribute o m apos) es [] pos) env = (do
      let ov ← PySem.eval o env
      standAt apos.atName
      let (f, first) ← holding [ov] (getMethod ov m (do return (← importBound o env).getD true))
      callWith pos f first (backTo pos (starEach es env)) (backToKw pos (keywordEach [] env))) := by
  rw [arm_eval_Call, base_of hn]
  unfold methodCall
  show (PySem.eval o env >>= fun ov => standAt apos.atName >>= fun _ => holding [ov] (calleeOf (methodCallForm es.length (backTo pos (starEach es env)) []) o env ov m) >>= fun z => methodCallPos (methodCallForm es.length (backTo pos (starEach es env)) []) o env apos pos >>= fun cp => callWith cp z.1 z.2 (backTo pos (starEach es env)) []) = _
  rw [hf]
  have hp : methodCallPos true o env apos pos = pure pos := by
    unfold methodCallPos
    rw [hli]
    rfl
  rw [hp]
  rfl
/-- o.m(e, ..) -/
theorem pe_methS {m : Str} (hm : Meth X.K C m f) (c : Cls X.K C) (F : FnOk X.prog X.w X.K X.mg X.base CX k f fd ps sp) (hr : Room k X.A) (hb : Binds X.K fd ps []) (hx : ∀ σ, PassesAt CX X σ (E σ)) (ho : PE X o ta) (ha : PA X (e :: es) t)
    (hn : noSup o = true) (hli : (apos.endLine == pos.line) = true) (hp : plainE e = true) (hps : ∀ x ∈ es, plainE x = true) (hl : (e :: es).length < 30) :
    PE X (.Call (.Attribute o m apos) (e :: es) [] pos) (fun σ H Q => ta σ H fun x H1 => ∃ a dx fs, x = .ref a ∧ H1 a = some (.ins C dx fs) ∧ fs.lookup m = none ∧ t σ H1 fun vs H2 => sp (x :: vs) H2 Q (E σ)) := by
  have hst := nostars (env := X.env) (pos := pos) hps
  refine ⟨fun pins s σ H Q I h => PySem.W.methodCall_KW (thn (ho.run pins s σ H _ I h) fun u s1 ⟨x, H1, I1, rx, a, dx, fs, ex, ea, l, q⟩ => ?_) (meth_eval hn hli (form_of (by rw [starEach_cons hp]; exact hst) hl))⟩
  subst ex
  cases (show u = Value.ref a from rx)
  exact getmeth_ok I1 ea c hm l (PySem.W.callWith_K (first := [.ref a]) (h₀ := X.base) I1.ok.mod.kin hm.kp (thn (ha.run pos pins s1 σ H1 _ I1 q) fun us s2 ⟨vs, H2, I2, r, q2⟩ =>
    ⟨I2.kIn, run_at (us := .ref a :: us) (vs := .ref a :: vs) F hr I2.env0 hb (hx σ) I2 (.cons rfl r) q2⟩) (starEach_cons hp) hst)
theorem pe_methS0 {m : Str} (hm : Meth X.K C m f) (c : Cls X.K C) (F : FnOk X.prog X.w X.K X.mg X.base CX k f fd ps sp) (hr : Room k X.A) (hb : Binds X.K fd ps []) (hx : ∀ σ, PassesAt CX X σ (E σ)) (ho : PE X o ta)
    (hn : noSup o = true) (hli : (apos.endLine == pos.line) = true) :
    PE X (.Call (.Attribute o m apos) [] [] pos) (fun σ H Q => ta σ H fun x H1 => ∃ a dx fs, x = .ref a ∧ H1 a = some (.ins C dx fs) ∧ fs.lookup m = none ∧ sp [x] H1 Q (E σ)) := by
  refine ⟨fun pins s σ H Q I h => PySem.W.methodCall_KW (thn (ho.run pins s σ H _ I h) fun u s1 ⟨x, H1, I1, rx, a, dx, fs, ex, ea, l, q⟩ => ?_) (meth_eval hn hli (form_of rfl (by decide)))⟩
  subst ex
  cases (show u = Value.ref a from rx)
  exact getmeth_ok I1 ea c hm l (PySem.W.callWith_K0 (first := [.ref a]) I1.kIn hm.kp (run_at (us := [.ref a]) (vs := [.ref a]) F hr I1.env0 hb (hx σ) I1 (.cons rfl .nil) q))
/-- C(e, ..) -/
theorem pe_makeS {x : Str} (M : Mk X.K C f) (F : FnOk X.prog X.w X.K X.mg X.base CX k f fd ps sp) (hr : Room (k + 1) X.A) (hg : Gl X x) (hm : X.mg x = some (.ref C)) (hb : Binds X.K fd ps []) (hx : ∀ σ, PassesAt CX X σ (E σ))
    (ha : PA X (e :: es) t) (hdb : (x == ("__debug__" : Str)) = false) (hp : plainE e = true) (hps : ∀ x ∈ es, plainE x = true) :
    PE X (.Call (.Name x p) (e :: es) [] pos) (fun σ H Q => t σ H fun vs H1 => ∀ y dy, H1 y = none → H1 dy = none → dy ≠ y → sp (.ref y :: vs) (upd (upd H1 dy (.own y)) y (.ins C dy [])) (fun v H2 => v = .non ∧ Q (.ref y) H2) (E σ)) := by
  refine ⟨fun pins s σ H Q I h => wpAny_Call_Name_kw (ld_glob I hg hm (PySem.W.callWith_K (h₀ := X.base) I.ok.mod.kin M.kp (thn (ha.run pos pins s σ H _ I h) fun us s1 ⟨vs, H1, I1, r, q⟩ => ⟨I1.kIn, ?_⟩) (starEach_cons hp) (nostars hps)) hdb)⟩
  have J := Inv.made (C := C) I1
  have hq := q (s1.heap.objs.size + 1) s1.heap.objs.size (I1.hok.fresh (Nat.le_succ _)) (I1.hok.fresh (Nat.le_refl _)) (Nat.ne_of_lt (Nat.lt_succ_self _))
  have rr : Vals (V.ref (s1.heap.objs.size + 1) :: vs) (Value.ref (s1.heap.objs.size + 1) :: us) := .cons rfl r
  have hl : ((Value.ref (s1.heap.objs.size + 1) :: us) ++ []).length = ps.length := by rw [List.append_nil, ← rr.length]; exact F.len _ _ _ _ hq
  have hB := hb _ (Value.ref (s1.heap.objs.size + 1) :: us) J.kIn hl
  rw [List.append_nil] at hB
  refine wpAny_call (make_map (f := f) I1.kIn M.makes M.init (beq_iff_eq.mp M.fn) (codeAny_mono (F.run _ X.stack _ _ ⟨Value.ref (s1.heap.objs.size + 1) :: us, []⟩ _ _ _ (E σ) (hr.make C us []) (J.env0.make C us []) hB rr hq) fun z s' hz => ?_))
  match z, hz with
  | .error er, hz => exact hx σ pins _ _ er s' J hz
  | .ok (.ret u), hz =>
    obtain ⟨v, H', I3, rv, ev, q3⟩ := J.after hz
    subst ev
    exact ⟨rv, ⟨V.ref (s1.heap.objs.size + 1), H', I3, rfl, q3⟩⟩
theorem slice_own {o i : Value} (h : plainE b = true) : subscripted b true o i = runValue (.builtin "lifetime.subscript" ⟨[o, i], []⟩) := by
  cases b <;> first | rfl | cases h
/-- o[i] -/
theorem pe_getS (hs : PySem.W.findIn X.K (.ref C) "__getitem__" = some (some (.ref f))) (hf : PySem.W.fnIn X.K f = true) (hfn : PySem.W.isFn X.K (.ref f) = true) (F : FnOk X.prog X.w X.K X.mg X.base CX k f fd ps sp) (hr : Room (k + 1) X.A) (hb : Binds X.K fd ps [])
    (hx : ∀ σ, PassesAt CX X σ (E σ)) (ha : PE X a ta) (hi : PE X b tb) (hp : plainE b = true) :
    PE X (.Subscript a b pos) (fun σ H Q => ta σ H fun x H1 => tb σ H1 fun y H2 => ∃ c dx fs, x = .ref c ∧ H2 c = some (.ins C dx fs) ∧ sp [x, y] H2 Q (E σ)) := by
  refine ⟨fun pins s σ H Q I h => Subscript_ (binT ha hi I h fun v u s2 x y H2 I2 rx ry ⟨c, dx, fs, ex, ea, q⟩ => ?_)⟩
  subst ex
  cases (show v = Value.ref c from rx)
  obtain ⟨mA, J, _⟩ := ins_get I2.hok ea
  obtain ⟨od, J, _⟩ := J.look
  obtain ⟨m, hF⟩ := I2.fr
  exact PySem.W.sub_K hF I2.ok.mod.kin J hs hf hfn (run_at F hr.in1 I2.env0.in1 hb (hx σ) I2 (.cons rx (.cons ry .nil)) q) (slice_own hp)
/-- what passes through a comparison: any value -/
theorem back_of {A : Around} {g : Addr} {us : List Value} {Z : Value → Shared → Prop} {E' : Value → Shared → Prop} (h : wpAny (model X.prog X.w) A (call (.ref g) us) (EP X pins σ Q) E' s) : wpAny (model X.prog X.w) A (call (.ref g) us) (PySem.W.CmpBack (EP X pins σ Q)) E' s :=
  wpAny_mono h (fun v s' z => by
    cases v with
    | notImplemented =>
      obtain ⟨x, H', _, r, _⟩ := z
      cases x <;> first | (obtain ⟨_, e⟩ := r; cases e; done) | cases r
    | _ => exact z) fun _ _ z => z
/-- == of two of the class -/
theorem op_eqS {E0 : XK} (hs : PySem.W.findIn X.K (.ref C) "__eq__" = some (some (.ref f))) (hf : PySem.W.isFn X.K (.ref f) = true) (F : FnOk X.prog X.w X.K X.mg X.base CX k f fd ps sp) (hr : Room (k + 1) X.A) (hb : Binds X.K fd ps [])
    (hx : ∀ σ, PassesAt CX X σ E0) : OpR X (compareOp .Eq) (fun x y H Q => ∃ a b dx dy fs gs, x = .ref a ∧ y = .ref b ∧ H a = some (.ins C dx fs) ∧ H b = some (.ins C dy gs) ∧ sp [x, y] H Q E0) := by
  intro pins s σ H x y v u Q I rx ry ⟨a, b, dx, dy, fs, gs, ex, ey, ea, eb, q⟩
  subst ex ey
  cases (show v = Value.ref a from rx)
  cases (show u = Value.ref b from ry)
  obtain ⟨_, J, _⟩ := ins_get I.hok ea
  obtain ⟨_, J2, _⟩ := ins_get I.hok eb
  obtain ⟨od, J, _⟩ := J.look
  obtain ⟨od2, J2, _⟩ := J2.look
  obtain ⟨m, hF⟩ := I.fr
  show wpAny (model X.prog X.w) X.A (richCompare .Eq (.ref a) (.ref b)) (EP X pins σ Q) X.xe s
  exact PySem.W.cmp_K (op := .Eq) (tb := .ref C) hr.units0 hF I.ok.mod.kin J J2.type (by simp [PySem.W.notFirst]) hs hf (back_of (Z := fun _ _ => True) (run_at F (hr.mono (Nat.le_succ _)) I.env0 hb (hx σ) I (.cons rx (.cons ry .nil)) q))
/-- len(x) -/
theorem call_lenS {E0 : XK} (hs : PySem.W.findIn X.K (.ref C) "__len__" = some (some (.ref f))) (hf : PySem.W.isFn X.K (.ref f) = true) (F : FnOk X.prog X.w X.K X.mg X.base CX k f fd ps sp) (hr : Room (k + 1) X.A) (hb : Binds X.K fd ps [])
    (hx : ∀ σ, PassesAt CX X σ E0) : CallR X (.builtin "len") (fun xs H Q => ∃ a dx fs, xs = [.ref a] ∧ H a = some (.ins C dx fs) ∧ sp xs H (fun v H' => ∃ n : Int, v = .int n ∧ 0 ≤ n ∧ n < 2 ^ 63 ∧ Q (.int n) H') E0) := by
  intro pins s σ H vs us Q I r ⟨a, dx, fs, ex, ea, q⟩
  subst ex
  obtain ⟨u, rfl, ru⟩ := vals1 r
  cases (show u = Value.ref a from ru)
  obtain ⟨_, J, _⟩ := ins_get I.hok ea
  obtain ⟨od, J, _⟩ := J.look
  obtain ⟨m, hF⟩ := I.fr
  refine PySem.W.len_K hF I.ok.mod.kin J hs hf (wpAny_mono (run_at F hr.in1 I.env0.in1 hb (hx σ) I (.cons ru .nil) q) (fun v s' ⟨x, H', I', rv, n, ex, h0, h1, q'⟩ => ?_) fun _ _ z => z)
  subst ex
  obtain ⟨tk, rfl⟩ := (show ∃ t, v = Value.int n t from rv)
  exact ⟨⟨h0, h1⟩, .int n, H', I'.tok _, ⟨_, rfl⟩, q'⟩
/-- x op= e -/
theorem ps_augO {i : Nat} {x : Str} {op : Operator} {pos' : Pos} (hc : PySem.W.selfFirst X.K C = true) (hs : PySem.W.findIn X.K (.ref C) (dunderI op.info.2) = some (some (.ref f))) (hf : PySem.W.isFn X.K (.ref f) = true) (F : FnOk X.prog X.w X.K X.mg X.base CX k f fd ps sp)
    (hr : Room k X.A) (hb : Binds X.K fd ps []) (hx : ∀ σ, PassesAt CX X σ (E σ)) (hN : X.N.Nodup) (hi : X.N[i]? = some x) (hl : L2.Loc X.env.scope x) (hfn : X.fn x = true ∨ X.env.scope.names.lookup x = some .local) (he : PE X e ta) :
    PS X (.AugAssign (.Name x pos') op e pos) (fun D σ H => ∃ v, σ[i]? = some (some v) ∧ ta σ H fun y H1 => ∃ c dx fs, v = .ref c ∧ H1 c = some (.ins C dx fs) ∧ sp [v, y] H1 (fun z H2 => D.nx (σ.set i (some z)) H2) (E σ)) := by
  refine ⟨fun pins s σ H D I ⟨v, e1, h⟩ => wpAny_AugAssign_Name ?_⟩
  obtain ⟨m, hn, hv⟩ := I.loc
  have vis : Vis X.env.scope x := hl.elim .inl fun z => .inr (.inl z)
  obtain ⟨u, ru, hv⟩ := hv i x v hi e1 vis
  have go : wpAny (model X.prog X.w) X.A (PySem.eval e X.env) (fun w s₂ => wpAny (model X.prog X.w) X.A (inplaceOp op u w) (fun r s₃ => wpAny (model X.prog X.w) X.A (storeName X.env x r) (fun _ => L2.SP X pins D .next) X.xe s₃) X.xe s₂) X.xe s :=
    thn (he.run pins s σ H _ I h) fun w s1 ⟨y, H1, I1, ry, c, dx, fs, ev, ea, q⟩ => by
      subst ev
      cases (show u = Value.ref c from ru)
      obtain ⟨_, J, _⟩ := ins_get I1.hok ea
      obtain ⟨od, J, _⟩ := J.look
      obtain ⟨m', hF⟩ := I1.fr
      refine PySem.W.ksp_inplace hF I1.ok.mod.kin J hc hs hf (wpAny_mono (back_of (Z := fun _ _ => True) (run_at F hr I1.env0 hb (hx σ) I1 (.cons ru (.cons ry .nil)) q)) (fun r s2 z => ?_) fun _ _ z => z)
      cases r with
      | notImplemented => exact z
      | _ =>
        obtain ⟨zv, H2, I2, r2, q2⟩ := z
        exact store_ok I2 hN hi hl r2 (fun s3 I3 => ⟨_, H2, I3, q2⟩) hfn
  rcases hv with ⟨hk, hm⟩ | ⟨hk, c, hc, hcell⟩
  · exact wpAny_loadName_local I.ok.kind hk hn hm go
  · rcases hk with hk | hk
    · exact wpAny_loadName_cell I.ok.kind hk hc hcell go
    · rcases hl with z | z <;> (have w : X.env.scope.names.lookup x = some .free := hk; rw [z] at w; cases w)
end
end Mi
/-! Mini: instances as cells. -/
namespace Mi
open PySem PySem.Spec PyProof.Rows L2
variable [Glb]
/-! ### attributes as data -/
section
variable {K : PySem.W.Frag} {H : Hp} {L : Addr → Prop} {loc : Loc}
theorem RepF.look {x : Str} {d : D} : ∀ {vs : List (Str × V)} {fs : List (Str × D)}, RepF K H L loc vs fs → fs.lookup x = some d → ∃ v, vs.lookup x = some v ∧ Rep K H L loc v d
  | [], [], _, h => by cases h
  | [], _ :: _, h, _ => h.elim
  | _ :: _, [], h, _ => h.elim
  | (y, v) :: vs, (z, e) :: fs, ⟨h1, h2, t⟩, h => by
    subst h1
    rw [List.lookup_cons] at h ⊢
    cases q : x == y with
    | true =>
      rw [q] at h
      cases h
      exact ⟨v, rfl, h2⟩
    | false =>
      rw [q] at h
      exact RepF.look t h
theorem RepF.gone {x : Str} : ∀ {vs : List (Str × V)} {fs : List (Str × D)}, RepF K H L loc vs fs → (fs.lookup x).isNone = true → vs.lookup x = none
  | [], [], _, h => rfl
  | [], _ :: _, h, _ => h.elim
  | _ :: _, [], h, _ => h.elim
  | (y, v) :: vs, (z, e) :: fs, ⟨h1, h2, t⟩, h => by
    subst h1
    rw [List.lookup_cons] at h ⊢
    cases q : x == y with
    | true =>
      rw [q] at h
      cases h
    | false =>
      rw [q] at h
      exact RepF.gone t h
theorem RepF.len : ∀ {vs : List (Str × V)} {fs : List (Str × D)}, RepF K H L loc vs fs → vs.length = fs.length
  | [], [], _ => rfl
  | [], _ :: _, h => h.elim
  | _ :: _, [], h => h.elim
  | (y, v) :: vs, (z, e) :: fs, ⟨_, _, t⟩ => congrArg (· + 1) (RepF.len t)
theorem RepF.put {x : Str} {v : V} {d : D} (r : Rep K H L loc v d) : ∀ {vs : List (Str × V)} {fs : List (Str × D)}, RepF K H L loc vs fs → RepF K H L loc (putF x v vs) (putA x d fs)
  | [], [], _ => ⟨rfl, r, True.intro⟩
  | [], _ :: _, h => h.elim
  | _ :: _, [], h => h.elim
  | (y, w) :: vs, (z, e) :: fs, ⟨h1, h2, t⟩ => by
    subst h1
    unfold putF putA
    by_cases q : y = x
    · rw [if_pos q, if_pos q]
      exact ⟨rfl, r, t⟩
    · rw [if_neg q, if_neg q]
      exact ⟨rfl, h2, RepF.put r t⟩
end
section
variable {X : Cx} {Γ : Gam} {Cl : Call} {G : Nat → Option D} {a b c e o : Expr} {es : List Expr} {ea eb ec ev eo : Env → MH → R D} {pos p apos : Pos} {x : Str} {C fa : Addr} {kk f : Nat} {ms : List E} {H : Hp} {m : MH} {loc : Loc} {v : V} {d : D}
theorem insK_iff (h : insK m kk d = true) : ∃ n fs, d = .ref n ∧ m[n]? = some (.ins kk fs) := by
  cases d with
  | ref n =>
    have h : (match m[n]? with
      | some (.ins j _) => j == kk
      | _ => false) = true := h
    cases q : m[n]? with
    | none =>
      rw [q] at h
      cases h
    | some c =>
      rw [q] at h
      cases c with
      | ins j fs => exact ⟨n, fs, rfl, by rw [← eq_of_beq (show (j == kk) = true from h)]; exact q⟩
      | _ => cases h
  | _ => cases h
theorem insX_iff (h : insX m kk x d = true) : ∃ n fs, d = .ref n ∧ m[n]? = some (.ins kk fs) ∧ (fs.lookup x).isNone = true := by
  cases d with
  | ref n =>
    have h : (match m[n]? with
      | some (.ins j fs) => j == kk && (fs.lookup x).isNone
      | _ => false) = true := h
    cases q : m[n]? with
    | none =>
      rw [q] at h
      cases h
    | some c =>
      rw [q] at h
      cases c with
      | ins j fs =>
        obtain ⟨h1, h2⟩ := Bool.and_eq_true_iff.mp (show (j == kk && (fs.lookup x).isNone) = true from h)
        exact ⟨n, fs, rfl, by rw [← eq_of_beq h1]; exact q, h2⟩
      | _ => cases h
  | _ => cases h
theorem fldD_iff {z : D} (h : fldD m kk x d = some z) : ∃ n fs, d = .ref n ∧ m[n]? = some (.ins kk fs) ∧ fs.lookup x = some z := by
  cases d with
  | ref n =>
    have h : (match m[n]? with
      | some (.ins j fs) => if j = kk then fs.lookup x else none
      | _ => none) = some z := h
    cases q : m[n]? with
    | none =>
      rw [q] at h
      cases h
    | some c =>
      rw [q] at h
      cases c with
      | ins j fs =>
        have h : (if j = kk then fs.lookup x else none) = some z := h
        split at h
        · rename_i e
          exact ⟨n, fs, rfl, by rw [← e]; exact q, h⟩
        · cases h
      | _ => cases h
  | _ => cases h
theorem setfD_iff {z : D} {m' : MH} (h : setfD kk x z m d = some m') : ∃ n fs, d = .ref n ∧ m[n]? = some (.ins kk fs) ∧ fs.length < 1000 ∧ m' = m.set n (.ins kk (putA x z fs)) := by
  cases d with
  | ref n =>
    have h : (match m[n]? with
      | some (.ins j fs) => if j = kk ∧ fs.length < 1000 then some (m.set n (.ins j (putA x z fs))) else none
      | _ => none) = some m' := h
    cases q : m[n]? with
    | none =>
      rw [q] at h
      cases h
    | some c =>
      rw [q] at h
      cases c with
      | ins j fs =>
        have h : (if j = kk ∧ fs.length < 1000 then some (m.set n (.ins j (putA x z fs))) else none) = some m' := h
        split at h
        · rename_i e
          obtain ⟨e1, e2⟩ := e
          have h3 := Option.some.inj h
          subst e1
          exact ⟨n, fs, rfl, q, e2, h3.symm⟩
        · cases h
      | _ => cases h
  | _ => cases h
/-- an instance where it lies -/
theorem ins_cell (s : Sim Γ.K H m loc) {n : Nat} {fs : List (Str × D)} (r : RepM Γ.K H m loc v (.ref n)) (hC : (Glb.k Γ.K)[kk]? = some C) (h : m[n]? = some (.ins kk fs)) :
    ∃ a dx vs, v = .ref a ∧ loc.l[n]? = some a ∧ H a = some (.ins C dx vs) ∧ RepF Γ.K H (Live m loc) loc vs fs := by
  cases r with
  | ref e =>
    obtain ⟨C', dx, vs, h1, h2, h3⟩ := s.cell n _ _ h e
    rw [s.fi.k, hC] at h1
    cases h1
    exact ⟨_, dx, vs, rfl, e, h2, h3⟩
/-- a def of a class that may be called -/
def FnA (X : Cx) (Γ : Gam) (fa : Addr) (n : Nat) (call : List D → MH → R D) : Prop :=
  ∃ (k : Nat) (fd : FuncData) (ps : List Str), Binds X.K fd ps [] ∧ Room (k + 1) X.A ∧ FnOk X.prog X.w X.K X.mg X.base (L2N.CX X.prog X.w) k fa fd ps (spF Γ n call)
theorem se_fld (hC : (Glb.k Γ.K)[kk]? = some C) (c : Cls X.K C) (n : NoAttr X.K C x) (hn : noSup a = true) (ha : SE Γ X a ea) : SE Γ X (.Attribute a x pos) (fun env m => (ea env m).bind fun d m => ofO (fldD m kk x d) m) := fun W tk =>
  wkE (pe_fld (ha W tk) (base_of hn)) fun σ H Q ⟨env, m, loc, A, p⟩ => sub A p fun v H1 d m1 loc1 _ A1 k1 r1 p1 => by
    obtain ⟨z, e, p2⟩ := p1.ofO
    obtain ⟨i, fs, rfl, e1, e2⟩ := fldD_iff e
    obtain ⟨a', dx, vs, rfl, _, h2, h3⟩ := ins_cell A1.1 r1 hC e1
    obtain ⟨w, h4, h5⟩ := h3.look e2
    exact ⟨a', C, dx, vs, w, rfl, h2, c, n, h4, p2.ret A1.1 h5⟩
theorem se_mth (hC : (Glb.k Γ.K)[kk]? = some C) (c : Cls X.K C) (hm : Meth X.K C x fa) (F : FnA X Γ fa (ms.length + 1) (Cl f)) (hn : noSup a = true) (hli : (apos.endLine == pos.line) = true) (hl : ms.length < 30) (ha : SE Γ X a ea) (hs : SEs Γ X G Cl es ms) :
    SE Γ X (.Call (.Attribute a x apos) es [] pos) (fun env m => (ea env m).bind fun d m => if insX m kk x d then (evals G Cl ms env m).bind fun ds m => Cl f (d :: ds) m else .stuck) := fun W tk => by
  obtain ⟨k, fd, ps, h1, h2, h3⟩ := F
  cases hs with
  | nil =>
    refine wkE (pe_methS0 hm c h3 (h2.mono (Nat.le_succ _)) h1 (E := WE W) (fun σ => L2N.passAt tk σ) (ha W tk) hn hli) fun σ H Q ⟨env, m, loc, A, p⟩ => sub A p fun v H1 d m1 loc1 _ A1 k1 r1 p1 => ?_
    obtain ⟨e, p2⟩ := if_run p1
    obtain ⟨i, fs, rfl, e1, e2⟩ := insX_iff e
    obtain ⟨a', dx, vs, rfl, _, q2, q3⟩ := ins_cell A1.1 r1 hC e1
    exact ⟨a', dx, vs, rfl, q2, q3.gone e2, rfl, [.ref i], m1, loc1, A1.1, .cons r1 .nil, p2⟩
  | cons hp h0 t =>
    have hln : (_ :: _ : List E).length < 30 := hl
    have hsa := SEs.cons hp h0 t
    refine wkE (pe_methS hm c h3 (h2.mono (Nat.le_succ _)) h1 (E := WE W) (fun σ => L2N.passAt tk σ) (ha W tk) (hsa.sa W tk) hn hli hp t.plain (by rw [List.length_cons, t.length]; exact hln)) fun σ H Q ⟨env, m, loc, A, p⟩ => sub A p fun v H1 d m1 loc1 _ A1 k1 r1 p1 => ?_
    obtain ⟨e, p2⟩ := if_run p1
    obtain ⟨i, fs, rfl, e1, e2⟩ := insX_iff e
    obtain ⟨a', dx, vs, rfl, _, q2, q3⟩ := ins_cell A1.1 r1 hC e1
    refine ⟨a', dx, vs, rfl, q2, q3.gone e2, ?_⟩
    refine sub A1 p2 fun us H2 ds m2 loc2 e3 A2 k2 r2 p3 => ?_
    exact ⟨by rw [List.length_cons, r2.length, evals_len e3], .ref i :: ds, m2, loc2, A2.1, .cons (r1.mono k2) r2, p3⟩
/-- nothing is let out -/
abbrev EF : XK := fun _ _ _ => False
theorem pass_ef {X : Cx} (σ : L2.St) : PassesAt (L2N.CX X.prog X.w) X σ EF := fun _ _ _ e s' _ c => by
  obtain ⟨_, _, _, _, _, _, _, _, _, _, _, _, z⟩ := c
  exact z.elim
theorem passN_ef {X : Cx} : Passes (L2N.CX X.prog X.w) X.nox EF := fun _ _ _ _ e s' _ c => by
  obtain ⟨_, _, _, _, _, _, _, _, _, _, _, _, z⟩ := c
  exact z.elim
theorem po_noX {W W' : Value → Option Addr → Hp → Prop} {r : R D} {Q : VK} (p : Po Γ W H m loc (rlD Γ) (noX r) Q) : Po Γ W' H m loc (rlD Γ) r Q := by
  cases r with
  | ok d m' => exact p
  | exc x m' => exact (show False from p).elim
  | stuck => exact p
theorem po_len {W W' : Value → Option Addr → Hp → Prop} {r : R D} {Q : VK} (p : Po Γ W H m loc (rlD Γ) (lenI r) Q) : Po Γ W' H m loc (rlD Γ) r (fun v H' => ∃ n : Int, v = .int n ∧ 0 ≤ n ∧ n < 2 ^ 63 ∧ Q (.int n) H') := by
  cases r with
  | ok d m' =>
    cases d with
    | int i =>
      have p : Po Γ W H m loc (rlD Γ) (if 0 ≤ i ∧ i < 4611686018427387904 then .ok (.int i) m' else .stuck) Q := p
      split at p
      · rename_i h
        intro v H' loc' s k r
        cases r
        exact ⟨i, rfl, h.1, by omega, p _ H' loc' s k (.int i)⟩
      · exact (show False from p).elim
    | _ => exact (show False from p).elim
  | exc x m' => exact (show False from p).elim
  | stuck => exact p
theorem po_blR {W W' : Value → Option Addr → Hp → Prop} {r : R D} {Q : VK} (p : Po Γ W H m loc (rlD Γ) (blR r) Q) : Po Γ W' H m loc (rlD Γ) r (fun v H' => ∃ b, v = .bl b ∧ Q (.bl b) H') := by
  cases r with
  | ok d m' =>
    cases d with
    | bl b =>
      intro v H' loc' s k r
      cases r
      exact ⟨b, rfl, p _ H' loc' s k (.bl b)⟩
    | _ => exact (show False from p).elim
  | exc x m' => exact (show False from p).elim
  | stuck => exact p
theorem se_prop {y : E} {pa : Addr} (hC : (Glb.k Γ.K)[kk]? = some C) (c : Cls X.K C) (hp : PropOf X.K C x pa fa) (F : FnA X Γ fa 1 (Cl f)) (hn : noSup a = true) (ha : SE Γ X a (eval G Cl y)) : SE Γ X (.Attribute a x pos) (eval G Cl (.ow1 (.prop x) kk f y)) := fun W tk => by
  obtain ⟨k, fd, ps, h1, h2, h3⟩ := F
  refine wkE (pe_prop (E := EF) (ha W tk) c hp h3 h2 h1 .nil passN_ef (base_of hn)) fun σ H Q ⟨env, m, loc, A, p⟩ => ?_
  refine sub A (show Po Γ (fun c d H => W c d σ H) H m loc (rlD Γ) ((eval G Cl y env m).bind fun d m => if ownOk (.prop x) kk m [d] then ownEnd (.prop x) (Cl f [d] m) else .stuck) Q from p) fun v H1 d m1 loc1 _ A1 k1 r1 p1 => ?_
  obtain ⟨e, p2⟩ := if_run p1
  obtain ⟨i, fs, rfl, e1⟩ := insK_iff (show insK m1 kk d = true from e)
  obtain ⟨a', dx, vs, rfl, _, q2, q3⟩ := ins_cell A1.1 r1 hC e1
  exact ⟨a', dx, vs, rfl, q2, rfl, [.ref i], m1, loc1, A1.1, .cons r1 .nil, po_noX p2⟩
theorem se_geto {y z : E} (hC : (Glb.k Γ.K)[kk]? = some C) (hs : PySem.W.findIn X.K (.ref C) "__getitem__" = some (some (.ref fa))) (hf : PySem.W.fnIn X.K fa = true) (hfn : PySem.W.isFn X.K (.ref fa) = true) (F : FnA X Γ fa 2 (Cl f)) (hp : plainE b = true)
    (ha : SE Γ X a (eval G Cl y)) (hb : SE Γ X b (eval G Cl z)) : SE Γ X (.Subscript a b pos) (eval G Cl (.ow2 .get kk f y z)) := fun W tk => by
  obtain ⟨k, fd, ps, h1, h2, h3⟩ := F
  refine wkE (pe_getS hs hf hfn h3 h2 h1 (E := WE W) (fun σ => L2N.passAt tk σ) (ha W tk) (hb W tk) hp) fun σ H Q ⟨env, m, loc, A, p⟩ => ?_
  refine sub A (show Po Γ (fun c d H => W c d σ H) H m loc (rlD Γ) ((eval G Cl y env m).bind fun d m => (eval G Cl z env m).bind fun e m => if ownOk .get kk m [d, e] then ownEnd .get (Cl f [d, e] m) else .stuck) Q from p) fun v1 H1 d1 m1 loc1 _ A1 k1 r1 p1 => sub A1 p1 fun v2 H2 d2 m2 loc2 _ A2 k2 r2 p2 => ?_
  have r1 := r1.mono k2
  obtain ⟨e, p3⟩ := if_run p2
  obtain ⟨i, fs, rfl, e1⟩ := insK_iff (show insK m2 kk d1 = true from e)
  obtain ⟨a', dx, vs, rfl, _, q2, q3⟩ := ins_cell A2.1 r1 hC e1
  exact ⟨a', dx, vs, rfl, q2, rfl, [.ref i, d2], m2, loc2, A2.1, .cons r1 (.cons r2 .nil), p3⟩
theorem eqo_run {y z : E} {Q : VK} {W : WX} {σ : L2.St} (hC : (Glb.k Γ.K)[kk]? = some C) (t : tE Γ W (eval G Cl (.ow2 .eq kk f y z)) σ H Q) :
    tOp (fun x y H Q => ∃ a b dx dy fs gs, x = .ref a ∧ y = .ref b ∧ H a = some (.ins C dx fs) ∧ H b = some (.ins C dy gs) ∧ spF Γ 2 (Cl f) [x, y] H Q EF) (tE Γ W (eval G Cl y)) (tE Γ W (eval G Cl z)) σ H (fun v H' => ∃ b, v = .bl b ∧ Q (.bl b) H') := by
  obtain ⟨env, m, loc, A, p⟩ := t
  refine sub A (show Po Γ (fun c d H => W c d σ H) H m loc (rlD Γ) ((eval G Cl y env m).bind fun d m => (eval G Cl z env m).bind fun e m => if ownOk .eq kk m [d, e] then ownEnd .eq (Cl f [d, e] m) else .stuck) Q from p) fun v1 H1 d1 m1 loc1 _ A1 k1 r1 p1 => sub A1 p1 fun v2 H2 d2 m2 loc2 _ A2 k2 r2 p2 => ?_
  have r1 := r1.mono k2
  obtain ⟨e, p3⟩ := if_run p2
  obtain ⟨g1, g2⟩ := Bool.and_eq_true_iff.mp (show (insK m2 kk d1 && insK m2 kk d2) = true from e)
  obtain ⟨i, fs, rfl, e1⟩ := insK_iff g1
  obtain ⟨j, gs, rfl, e2⟩ := insK_iff g2
  obtain ⟨a', dx, vs, rfl, _, q2, q3⟩ := ins_cell A2.1 r1 hC e1
  obtain ⟨b', dy, ws, rfl, _, q4, q5⟩ := ins_cell A2.1 r2 hC e2
  exact ⟨a', b', dx, dy, vs, ws, rfl, rfl, q2, q4, rfl, [.ref i, .ref j], m2, loc2, A2.1, .cons r1 (.cons r2 .nil), po_blR p3⟩
theorem se_eqo {y z : E} (hC : (Glb.k Γ.K)[kk]? = some C) (hs : PySem.W.findIn X.K (.ref C) "__eq__" = some (some (.ref fa))) (hfn : PySem.W.isFn X.K (.ref fa) = true) (F : FnA X Γ fa 2 (Cl f)) (hp : plainE b = true)
    (ha : SE Γ X a (eval G Cl y)) (hb : SE Γ X b (eval G Cl z)) : SE Γ X (.Compare a [.Eq] [b] pos) (eval G Cl (.ow2 .eq kk f y z)) := fun W tk => by
  obtain ⟨k, fd, ps, h1, h2, h3⟩ := F
  refine ⟨fun pins s σ H Q I h => ?_⟩
  refine wpAny_mono ((pe_cmpR (op_eqS (E0 := EF) hs hfn h3 h2 h1 pass_ef) (ha W tk) (hb W tk) (nomarks hp)).run pins s σ H _ I (eqo_run hC h)) (fun u s' ⟨v, H', I', r, bb, ev, q⟩ => ?_) fun _ _ z => z
  subst ev
  exact ⟨.bl bb, H', I', r, q⟩
theorem st_eqo {y z : E} (hC : (Glb.k Γ.K)[kk]? = some C) (hs : PySem.W.findIn X.K (.ref C) "__eq__" = some (some (.ref fa))) (hfn : PySem.W.isFn X.K (.ref fa) = true) (F : FnA X Γ fa 2 (Cl f)) (hp : plainE b = true)
    (ha : SE Γ X a (eval G Cl y)) (hb : SE Γ X b (eval G Cl z)) : ST Γ X (.Compare a [.Eq] [b] pos) (fun env m => test (eval G Cl (.ow2 .eq kk f y z) env m)) := fun W tk => by
  obtain ⟨k, fd, ps, h1, h2, h3⟩ := F
  refine wkT (pt_cmpR (op_eqS (E0 := EF) hs hfn h3 h2 h1 pass_ef) (ha W tk) (hb W tk) (nomarks hp)) fun σ H Q ⟨env, m, loc, A, p⟩ => ?_
  have key : tE Γ W (eval G Cl (.ow2 .eq kk f y z)) σ H (fun v H' => ∃ b, v = .bl b ∧ Q b H') := by
    refine ⟨env, m, loc, A, ?_⟩
    have p : Po Γ (fun c d H => W c d σ H) H m loc rlB ((eval G Cl (.ow2 .eq kk f y z) env m).bind fun x m => ofO (truth m x) m) Q := p
    have bl : ∀ d m', eval G Cl (.ow2 .eq kk f y z) env m = .ok d m' → ∃ b, d = .bl b := fun d m' e => by
      have e : ((eval G Cl y env m).bind fun d m => (eval G Cl z env m).bind fun e m => if ownOk .eq kk m [d, e] then ownEnd .eq (Cl f [d, e] m) else .stuck) = .ok d m' := e
      cases q1 : eval G Cl y env m with
      | ok d1 m1 =>
        rw [q1] at e
        have e : ((eval G Cl z env m1).bind fun e m => if ownOk .eq kk m [d1, e] then ownEnd .eq (Cl f [d1, e] m) else .stuck) = .ok d m' := e
        cases q2 : eval G Cl z env m1 with
        | ok d2 m2 =>
          rw [q2] at e
          have e : (if ownOk .eq kk m2 [d1, d2] then blR (Cl f [d1, d2] m2) else .stuck) = .ok d m' := e
          split at e
          · cases q3 : Cl f [d1, d2] m2 with
            | ok d3 m3 =>
              rw [q3] at e
              cases d3 <;> first | (cases e; done) | (cases e; exact ⟨_, rfl⟩)
            | exc _ _ =>
              rw [q3] at e
              cases e
            | stuck =>
              rw [q3] at e
              cases e
          · cases e
        | exc _ _ =>
          rw [q2] at e
          cases e
        | stuck =>
          rw [q2] at e
          cases e
      | exc _ _ =>
        rw [q1] at e
        cases e
      | stuck =>
        rw [q1] at e
        cases e
    cases q : eval G Cl (.ow2 .eq kk f y z) env m with
    | ok d m' =>
      obtain ⟨bb, rfl⟩ := bl d m' q
      rw [q] at p
      intro v H' loc' s k r
      cases r
      exact ⟨bb, rfl, p bb H' loc' s k rfl⟩
    | exc x m' =>
      rw [q] at p
      exact p
    | stuck =>
      rw [q] at p
      exact p
  have := eqo_run hC key
  unfold tTest
  obtain ⟨env', m', loc', A', p'⟩ := this
  refine ⟨env', m', loc', A', Po.imp p' fun v H1 h => ?_⟩
  obtain ⟨env2, m2, loc2, A2, p2⟩ := h
  refine ⟨env2, m2, loc2, A2, Po.imp p2 fun v2 H2 h2 => ?_⟩
  obtain ⟨a, b, dx, dy, fs, gs, e1, e2, e3, e4, e5, ds, m3, loc3, s3, r3, p3⟩ := h2
  exact ⟨a, b, dx, dy, fs, gs, e1, e2, e3, e4, e5, ds, m3, loc3, s3, r3, Po.imp p3 fun v H h => by
    obtain ⟨bb, rfl, cc, ec, q⟩ := h
    cases ec
    exact ⟨bb, rfl, q⟩⟩
theorem se_leno {y : E} (hC : (Glb.k Γ.K)[kk]? = some C) (n : BltN X x (.builtin "len")) (hs : PySem.W.findIn X.K (.ref C) "__len__" = some (some (.ref fa))) (hfn : PySem.W.isFn X.K (.ref fa) = true) (F : FnA X Γ fa 1 (Cl f)) (hp : plainE a = true)
    (ha : SE Γ X a (eval G Cl y)) : SE Γ X (.Call (.Name x p) [a] [] pos) (eval G Cl (.ow1 .len kk f y)) := fun W tk => by
  obtain ⟨k, fd, ps, h1, h2, h3⟩ := F
  refine wkE (pe_callB (call_lenS (E0 := EF) hs hfn h3 h2 h1 pass_ef) n.gl n.mg n.at_ (pa_cons (ha W tk) pa_nil (starEach_cons hp)) n.nn n.nd (starEach_cons hp) rfl) fun σ H Q ⟨env, m, loc, A, p⟩ => ?_
  refine sub A (show Po Γ (fun c d H => W c d σ H) H m loc (rlD Γ) ((eval G Cl y env m).bind fun d m => if ownOk .len kk m [d] then ownEnd .len (Cl f [d] m) else .stuck) Q from p) fun v H1 d m1 loc1 _ A1 k1 r1 p1 => ?_
  obtain ⟨e, p2⟩ := if_run p1
  obtain ⟨i, fs, rfl, e1⟩ := insK_iff (show insK m1 kk d = true from e)
  obtain ⟨a', dx, vs, rfl, _, q2, q3⟩ := ins_cell A1.1 r1 hC e1
  exact ⟨a', dx, vs, rfl, q2, rfl, [.ref i], m1, loc1, A1.1, .cons r1 .nil, po_len p2⟩
theorem po_mk {W : Value → Option Addr → Hp → Prop} {H0 : Hp} {m0 : MH} {loc0 : Loc} {n : Nat} {q : Addr} {r : R D} {Q : VK} (hq : loc.l[n]? = some q) (k0 : KpM H0 m0 loc0 H m loc) (p : Po Γ W H0 m0 loc0 (rlD Γ) (mkEnd n r) Q) :
    Po Γ W H m loc (rlD Γ) r (fun v H' => v = .non ∧ Q (.ref q) H') := by
  cases r with
  | ok d m' =>
    cases d with
    | non =>
      intro v H' loc' s k r
      cases r
      exact ⟨rfl, p _ H' loc' s (k0.trans k) (.ref (k.at hq))⟩
    | _ => exact (show False from p).elim
  | exc x m' => exact fun H' loc' s k => p H' loc' s (k0.trans k)
  | stuck => exact p
theorem se_mk (hC : (Glb.k Γ.K)[kk]? = some C) (M : Mk X.K C fa) (hg : Gl X x) (hm : X.mg x = some (.ref C)) (hdb : (x == ("__debug__" : Str)) = false) (F : FnA X Γ fa (ms.length + 1) (Cl f)) (hs : SEs Γ X G Cl (e :: es) ms) :
    SE Γ X (.Call (.Name x p) (e :: es) [] pos) (eval G Cl (.mk kk f ms)) := fun W tk => by
  obtain ⟨k, fd, ps, h1, h2, h3⟩ := F
  refine wkE (pe_makeS M h3 h2 hg hm h1 (E := WE W) (fun σ => L2N.passAt tk σ) (hs.sa W tk) hdb hs.head hs.tail) fun σ H Q ⟨env, m, loc, A, p⟩ => ?_
  refine sub A (show Po Γ (fun c d H => W c d σ H) H m loc (rlD Γ) ((evals G Cl ms env m).bind fun ds m => mkEnd m.length (Cl f (.ref m.length :: ds) (m ++ [.ins kk []]))) Q from p) fun us H1 ds m1 loc1 e3 A1 k1 r1 p1 => ?_
  intro y dy hy hdy ne
  have s1 := A1.1.new (o := .own y) hdy
  have hy' : upd H1 dy (.own y) y = none := by rw [upd_ne (Ne.symm ne)]; exact hy
  have s2 := s1.push (o := .ins C dy []) (c := .ins kk []) hy' ⟨C, dy, [], by rw [show (loc1.push y).f.k = Glb.k Γ.K from s1.fi.k]; exact hC, upd_same, True.intro⟩
  have k2 := (kp_new hdy A1.1).trans (kp_push (o := .ins C dy []) (c := .ins kk []) s1 hy')
  refine ⟨by rw [List.length_cons, r1.length, evals_len e3], .ref m1.length :: ds, m1 ++ [.ins kk []], loc1.push y, s2, .cons (.ref (push_at s1)) (r1.mono k2), ?_⟩
  exact po_mk (push_at s1) k2 p1
theorem ss_setf {x : Str} {pos' : Pos} (hC : (Glb.k Γ.K)[kk]? = some C) (c : Cls X.K C) (n : NoAttr X.K C x) (ho : SE Γ X o eo) (hv : SE Γ X e ev) (hs : swapsWith e (some (.Attribute o x pos')) pos.line X.env = pure false) :
    SS Γ X (.Assign [.Attribute o x pos'] e pos) (fun env m => (ev env m).at env fun z m => (eo env m).at env fun d m => match setfD kk x z m d with
      | some m => some (.nx env, m)
      | none => none) := fun W tk => wkS (ps_fld (ho W tk) (hv W tk) hs) fun D σ H ⟨env, m, loc, A, p⟩ => subS A p fun v H1 z m1 loc1 _ A1 k1 r1 p1 => subS A1 p1 fun w H2 d m2 loc2 _ A2 k2 r2 p2 => by
  have r1 := r1.mono k2
  cases q : setfD kk x z m2 d with
  | none =>
    rw [q] at p2
    exact (show False from p2).elim
  | some m' =>
    rw [q] at p2
    obtain ⟨i, fs, rfl, e1, e2, rfl⟩ := setfD_iff q
    obtain ⟨a', dx, vs, rfl, h1, h2, h3⟩ := ins_cell A2.1 r2 hC e1
    have nd : Cell.ins kk fs ≠ .dead := fun z => nomatch z
    have kp := kp_put (o := .ins C dx (putF x v vs)) (c := .ins kk (putA x z fs)) A2.1 e1 nd h1
    refine ⟨a', C, dx, vs, rfl, h2, c, n, by rw [h3.len]; exact e2, p2 σ _ loc2 (A2.1.put e1 nd h1 ⟨C, dx, putF x v vs, by rw [A2.1.fi.k]; exact hC, upd_same, ?_⟩) kp (A2.2.mono kp)⟩
    exact (h3.mono kp).put (r1.mono kp)
theorem ss_aug {op : Operator} {i : Nat} {x : Str} {pos' : Pos} {bo : BOp} {y : E} (hC : (Glb.k Γ.K)[kk]? = some C) (hc : PySem.W.selfFirst X.K C = true) (hs : PySem.W.findIn X.K (.ref C) (dunderI op.info.2) = some (some (.ref fa))) (hfn : PySem.W.isFn X.K (.ref fa) = true)
    (F : FnA X Γ fa 2 (Cl f)) (hN : X.N.Nodup) (hi : X.N[i]? = some x) (hl : L2.Loc X.env.scope x) (hfc : X.fn x = true ∨ X.env.scope.names.lookup x = some .local) (he : SE Γ X e ev) :
    SS Γ X (.AugAssign (.Name x pos') op e pos) (fun env m => match env[i]? with
      | some (some d) => (ev env m).at env fun y m => if insK m kk d then (Cl f [d, y] m).at env fun z m => some (.nx (env.set i (some z)), m) else none
      | _ => none) := fun W tk => by
  obtain ⟨k, fd, ps, h1, h2, h3⟩ := F
  refine wkS (ps_augO hc hs hfn h3 (h2.mono (Nat.le_succ _)) h1 (E := WE W) (fun σ => L2N.passAt tk σ) hN hi hl hfc (he W tk)) fun D σ H ⟨env, m, loc, A, p⟩ => ?_
  dsimp only at p
  match q : env[i]?, p with
  | some (some d), p =>
    obtain ⟨v, q1, q2⟩ := A.2.at_ i d q
    refine ⟨v, q1, subS A p fun w H1 y m1 loc1 _ A1 k1 r1 p1 => ?_⟩
    have q2 := q2.mono k1
    by_cases hk : insK m1 kk d = true
    · rw [if_pos hk] at p1
      obtain ⟨j, fs, rfl, e1⟩ := insK_iff hk
      obtain ⟨a', dx, vs, rfl, _, g2, g3⟩ := ins_cell A1.1 q2 hC e1
      refine ⟨a', dx, vs, rfl, g2, rfl, [.ref j, y], m1, loc1, A1.1, .cons q2 (.cons r1 .nil), ?_⟩
      cases e : Cl f [.ref j, y] m1 with
      | ok z m2 =>
        rw [e] at p1
        intro zv H2 loc2 s2 k2 r2
        exact p1 (σ.set i (some zv)) H2 loc2 s2 k2 ((A1.2.mono k2).set r2 i)
      | exc x m2 =>
        rw [e] at p1
        exact fun H2 loc2 s2 k2 cls d hx => p1 σ H2 loc2 s2 k2 (A1.2.mono k2) cls d hx
      | stuck =>
        rw [e] at p1
        exact p1
    · rw [if_neg hk] at p1
      exact (show False from p1).elim
  | some none, p => exact (show False from p).elim
  | none, p => exact (show False from p).elim
/-! ### isinstance by an own class -/
def plainTys : List String := ["NoneType", "bool", "int", "str", "tuple", "list"]
structure IscC (K : PySem.W.Frag) (C : Addr) : Prop where
  cl : Cls K C
  ha : PySem.W.findIn K (.ref C) "__class__" = some (some (.builtin "object.__class__"))
  hn : PySem.W.specialIn K (.builtin "object.__class__") "__get__" = some (some (.builtin "getset_descriptor.__get__"))
  ht : PySem.W.takesIn K (.builtin "object.__class__") = some true
  hm : PySem.W.mroIn K C (.type "object") = some true
  own : PySem.W.kitOne K (.ref C) (.ref C) = some true
  oth : ∀ n ∈ plainTys, PySem.W.kitOne K (.type n) (.ref C) = some false
theorem ty_plain {K : PySem.W.Frag} {L : Addr → Prop} (r : Rep K H L loc v d) (h : iscD m kk d = some (.bl false)) : ∃ n ∈ plainTys, TyX K H v (.type n) := by
  cases r with
  | non => exact ⟨_, by decide, .base .non⟩
  | bl b => exact ⟨_, by decide, .base (.bl b)⟩
  | int i => exact ⟨_, by decide, .base (.int i)⟩
  | str s => exact ⟨_, by decide, .base (.str s)⟩
  | tup q z _ =>
    refine ⟨"tuple", by decide, ?_⟩
    rcases q with ⟨q | ⟨o, q⟩, _⟩ | ⟨o, its, n, q, qc, _⟩
    · exact .base (.tup q)
    · exact .fTuple q
    · exact .kTuple q qc
  | lst q _ _ _ => exact ⟨_, by decide, .base (.lst q)⟩
  | dic _ _ _ => cases h
  | scr q z =>
    refine ⟨"list", by decide, ?_⟩
    rcases q with ⟨q | ⟨o, q⟩, _⟩ | ⟨o, its, n, q, qc, _⟩
    · exact .base (.lst q)
    · exact .base (.frz q)
    · exact .kList q qc
  | @ref a n q =>
    have h : (if insK m kk (.ref n) then some (D.bl true) else none) = some (.bl false) := h
    split at h <;> cases h
  | cls _ => cases h
theorem isc_cases {z : D} (h : iscD m kk d = some z) : (z = .bl true ∧ insK m kk d = true) ∨ z = .bl false := by
  cases d with
  | ref n =>
    have h : (if insK m kk (.ref n) then some (D.bl true) else none) = some z := h
    split at h
    · rename_i q
      cases h
      exact .inl ⟨rfl, q⟩
    · cases h
  | dic _ => cases h
  | cls _ => cases h
  | _ =>
    cases h
    exact .inr rfl
theorem se_isc {g y : Str} {p2 : Pos} (hK : X.K = Γ.K) (hC : (Glb.k Γ.K)[kk]? = some C) (hI : IscC X.K C) (n : BltN X g (.builtin "isinstance")) (gy : Gl X y) (my : X.mg y = some (.ref C)) (hdb : (y == ("__debug__" : Str)) = false) (hp : plainE a = true) (ha : SE Γ X a ea) :
    SE Γ X (.Call (.Name g p) [a, .Name y p2] [] pos) (fun env m => (ea env m).bind fun d m => ofO (iscD m kk d) m) := fun W tk => by
  refine wkE (pe_callB call_isi n.gl n.mg n.at_ (pa_cons (ha W tk) (pa_cons (pe_glob (v := .ref C) gy my rfl hdb) pa_nil (starEach_cons rfl)) (starEach_cons hp)) n.nn n.nd (starEach_cons hp) (nostars (es := [.Name y p2]) fun e he => by
    rcases List.mem_cons.mp he with q | q
    · rw [q]
      rfl
    · cases q)) fun σ H Q ⟨env, m, loc, A, p⟩ => ?_
  refine sub A p fun v H1 d m1 loc1 _ A1 k1 r1 p1 => ?_
  obtain ⟨z, e1, p2⟩ := p1.ofO
  rcases isc_cases e1 with ⟨rfl, hi⟩ | rfl
  · obtain ⟨i, fs, rfl, e2⟩ := insK_iff hi
    obtain ⟨a', dx, vs, rfl, _, q2, q3⟩ := ins_cell A1.1 r1 hC e2
    exact ⟨.ref a', .ref C, .ref C, .ref C, true, rfl, .own C, .base (.ins q2 hI.cl hI.ha hI.hn hI.ht hI.hm), hI.own, p2.ret A1.1 (.bl true)⟩
  · obtain ⟨nm, h1, h2⟩ := ty_plain r1 e1
    exact ⟨v, .ref C, .type nm, .ref C, false, rfl, .own C, hK ▸ h2, hI.oth nm h1, p2.ret A1.1 (.bl false)⟩
/-! ### the place of a text in a constant -/
theorem idxS_at : ∀ {ys : List Str} {z : Str} {j : Nat}, idxS ys z = some j → ys[j]? = some z ∧ ∀ m, m < j → ys[m]? ≠ some z
  | [], _, _, h => by cases h
  | y :: ys, z, j, h => by
    unfold idxS at h
    split at h
    · rename_i e
      cases h
      exact ⟨congrArg some e, fun m hm => absurd hm (Nat.not_lt_zero _)⟩
    · rename_i e
      obtain ⟨i, h1, h2⟩ := Option.map_eq_some_iff.mp h
      subst h2
      obtain ⟨g1, g2⟩ := idxS_at h1
      refine ⟨g1, fun m hm => ?_⟩
      cases m with
      | zero => exact fun q => e (Option.some.inj q)
      | succ m => exact g2 m (by omega)
/-- a constant tuple of texts -/
def GixC (X : Cx) (x : Str) (ys : List Str) : Prop := ∃ (q : Addr) (o : Obj), X.mg x = some (.ref q) ∧ X.K.lookup q = some o ∧ o.cls = .type "tuple" ∧ o.dict = none ∧ WrT X.K q (ys.map V.str)
theorem se_gix {ys : List Str} (hc : GixC X x ys) (hg : Gl X x) (hdb : (x == ("__debug__" : Str)) = false) (hp : plainE a = true) (hli : (apos.endLine == pos.line) = true) (ha : SE Γ X a ea) :
    SE Γ X (.Call (.Attribute (.Name x p) "index" apos) [a] [] pos) (fun env m => (ea env m).bind fun d m => ofO (gixD ys d) m) := fun W tk => by
  obtain ⟨q, o, h1, h2, h3, h4, h5⟩ := hc
  refine wkE (pe_bm PySem.F.plainAttrs_tuple PySem.F.slot_tuple_index PySem.F.type_tuple_index mt_tup_index (pe_glob (v := .ref q) hg h1 rfl hdb) (pa_cons (ha W tk) pa_nil (starEach_cons hp)) (base_of rfl) ?_ hli (starEach_cons hp) rfl) fun σ H Q ⟨env, m, loc, A, p⟩ => ?_
  · rw [starEach_cons hp]
    rfl
  · refine ⟨.inr (.inl ⟨rfl, o, h2, h3, h4⟩), sub A p fun v H1 d m1 loc1 _ A1 k1 r1 p1 => ?_⟩
    obtain ⟨z, e1, p2⟩ := p1.ofO
    cases d with
    | str s =>
      cases r1
      obtain ⟨j, e2, e3⟩ := Option.map_eq_some_iff.mp (show (idxS ys s).map (fun j => D.int (j : Nat)) = some z from e1)
      subst e3
      obtain ⟨g1, g2⟩ := idxS_at e2
      exact ⟨q, ys, s, j, rfl, rfl, .inr h5, g1, g2, p2.ret A1.1 (.int _)⟩
    | _ => cases e1
end
end Mi
namespace MX
open PySem PySem.Spec PyProof.Rows L2 PySem.W NdefX PySem.Calls
section
variable {prog : Program} {w : World} {A : Around} {E : Value → Shared → Prop} {h : Heap} {g : Array GenState} {d : Drawn} {t : Nat} {os : OsState}
variable {nm q : Str} {C N : Addr} {bs bm : List Value} {hdct : Bool} {sn : List Str} {sub : List Value} {ab : Bool} {col : Option Bool} {dd : Option Addr} {k0 k1 k2 k3 k5 : Option Value}
/-- ValueError.__init__ bound to e, called -/
theorem call_mw {u e t0 : Addr} {rest : List Value} {Q : Value → Shared → Prop}
    (hC : h.get? C = some (excClassObj nm q C N bs bm hdct sn sub ab col dd k0 k1 k2 k3 k5 "ValueError.__new__")) (he : h.get? e = some (HandSPX.excO C t0)) (hu : h.get? u = some (kxs_mw "ValueError.__init__" e)) (hrest : rest.length ≤ sizeLine)
    (hq : ∀ h' t1, (∀ b o, b ≠ e → h.get? b = some o → h'.get? b = some o) → h'.get? e = some (HandSPX.excO C t1) → Q .none ⟨h', g, d, t, os⟩) :
    wpAny (model prog w) A (call (.ref u) rest) Q E ⟨h, g, d, t, os⟩ := by
  refine wpAny_call (codeAny_of_tree ?_)
  show wpAny _ A.in1 (callAny (.ref u) ⟨rest, []⟩) _ _ _
  simp only [callAny]
  refine wpAny_bind (wpAny_load hu ?_)
  simp only [kxs_mw, show (Value.type "method-wrapper" == Value.type "method" || Value.type "method-wrapper" == Value.type "builtin_function_or_method" || Value.type "method-wrapper" == Value.type "method-wrapper") = true by decide, if_true]
  refine W.KFB.if_so (by decide) ?_
  refine wpAny_bind (check_bound_init F.excBase_ValueError.toExcCallFacts hC he rfl ?_)
  refine wpAny_bind (wpAny_pure (wpAny_pure ?_))
  refine ⟨plainId_quiet F.excBase_ValueError.init.plain _, codeAny_builtin F.excBase_ValueError.initEntry ?_⟩
  rw [Around.under_plainId F.excBase_ValueError.init.plain _]
  wp_walk
  refine hq _ h.objs.size (fun b o hb ho => ?_) ?_
  · rw [Heap.get?_update_other _ _ (Ne.symm hb)]
    exact Heap.get?_push_of_some _ ho
  · rw [Heap.get?_update_self _ (Heap.get?_push_of_some _ he) rfl]
    rfl
end
/-- super().__init__(e): the call's shape -/
theorem sup_eval {p0 p1 apos pos : Pos} {m z : Str} {j : Nat} {p3 : Pos} {env : PySem.Env} (hli : (apos.endLine == pos.line) = true) :
    PySem.eval (.Call (.Attribute (.Call (.Name "super" p0) [] [] p1) m apos) [.Constant (.str z) j p3] [] pos) env = (do
      let ov ← attributeBase (.Call (.Name "super" p0) [] [] p1) m env (PySem.eval (.Call (.Name "super" p0) [] [] p1) env)
      standAt apos.atName
      let (f, first) ← holding [ov] (getMethod ov m (do return (← importBound (.Call (.Name "super" p0) [] [] p1) env).getD true))
      callWith pos f first (backTo pos (starEach [.Constant (.str z) j p3] env)) []) := by
  show (attributeBase _ m env _ >>= fun ov => standAt apos.atName >>= fun _ => methodCall (.Call (.Name "super" p0) [] [] p1) m apos pos env ov 1 (backTo pos (starEach [.Constant (.str z) j p3] env)) []) = _
  unfold methodCall
  have hf : methodCallForm 1 (backTo pos (starEach [.Constant (.str z) j p3] env)) [] = true := rfl
  have hp : methodCallPos true (.Call (.Name "super" p0) [] [] p1) env apos pos = pure pos := by
    unfold methodCallPos
    rw [hli]
    rfl
  rw [hf, hp]
  rfl
/-- what the written part says of the class whose __init__ says super().__init__('z'), then self.x = y -/
structure InC (K : PySem.W.Frag) (P : Program) (mg : Str → Option Value) (C f cc cda : Addr) (scope : Scope) (s y fld : Str) : Prop where
  T : OexC K C
  code : ∃ (ccl : Value) (cdd : Option Addr) (vs : Array Value) (ccs : Array (Option Value)) (file : Str) (tf : Tok), K.lookup cda = some ⟨ccl, cdd, .fields vs, ccs⟩ ∧ vs[2]? = some (.str file tf) ∧ ((P.main.file : Str) == file) = true
  cell : ∃ (cl : Value) (cld : Option Addr) (csl : Array (Option Value)), K.lookup cc = some ⟨cl, cld, .cell (some (.ref C)), csl⟩
  cls : ∃ cd, clsIn K C = some cd ∧ alongIn K "__init__" ((cd.mro.dropWhile (· != .ref C)).drop 1) = some (some (.builtin "ValueError.__init__"))
  mro : mroIn K C (.ref C) = some true
  sub : subIn K (.ref C) (.type "ValueError") = some true
  opq : nsIn K cStatics "thirdparty.any" = some none
  fld : findIn K (.ref C) fld = some none
  top : (P.main.scope.names.lookup ("super" : Str)).isSome = false
  sup : mg "super" = none
  S : NScope [s, y, "__class__"] [s, y] ["__class__"] scope
  ks : scope.names.lookup ("super" : Str) = some .globalImplicit
def initSp (C : Addr) (fld : Str) : Sp := fun vs H Q E => ∃ (a : Addr) (v : V), vs = [.ref a, v] ∧ H a = some (exo a C none) ∧ ∀ dx, H dx = none → dx ≠ a → Q .non (upd (upd H dx (exd dx [(fld, v)])) a (exo a C (some dx)))
theorem init_ok {CX : CXT} {P : Program} {w : World} {K : PySem.W.Frag} {mg : Str → Option Value} {base : Heap} {k : Nat} {C f cc cda : Addr} {nm qual s y fld z : Str} {params : Arguments} {body : List Stmt} {scope : Scope} {oc : Value} {od : Option Addr} {dV kV doc pm ct : Value} {an : Option Addr} {osl : Array (Option Value)} {ar : Arg} {j : Nat} {p0 p1 p2 p3 p4 p5 p6 p7 p8 p9 : Pos}
    (lk : K.lookup f = some ⟨oc, od, .func (fnX nm qual params body scope [("__class__", cc)] dV kV doc pm an (.ref cda) ct), osl⟩) (hcd : codeIn K (.ref cda) qual = true)
    (I0 : InC K P mg C f cc cda scope s y fld)
    (hbody : body = [.Expr (.Call (.Attribute (.Call (.Name "super" p0) [] [] p1) "__init__" p2) [.Constant (.str z) j p3] [] p4) p5, .Assign [.Attribute (.Name s p6) fld p7] (.Name y p8) p9])
    (hp : (params.posonlyargs ++ params.args).head? = some ar) (har : ar.arg = s) (hns1 : s ≠ "__debug__") (hns3 : s ≠ "__classdict__") (hny1 : y ≠ "__debug__") (hny3 : y ≠ "__classdict__") (hli : (p2.endLine == p4.line) = true) :
    FnOk P w K mg base CX (k + 1) f (fnX nm qual params body scope [("__class__", cc)] dV kV doc pm an (.ref cda) ct) [s, y] (initSp C fld) := by
  refine ⟨fun vs H Q E ⟨a, v, e, _⟩ => by rw [e]; rfl, fun A outer s0 H args us vs Q E hr e0 hb r ⟨a, v, ev, ha, hq⟩ => ?_⟩
  subst ev
  obtain ⟨ccl, cdd, vsc, ccs, file, tf, hcode, hvs, hfile⟩ := I0.code
  obtain ⟨cl, cld, csl, hcell⟩ := I0.cell
  obtain ⟨cdC, hcls, halong⟩ := I0.cls
  have S := I0.S
  have KX : K.In s0.heap := e0.mod.kin.keeps fun b o e => (e0.bs b o e).1
  have lim : s0.heap.NoLimit := e0.mod.nolimit.keeps fun b o e => (e0.bs b o e).1
  have hl : ([.ref a, v] : List V).length = ([s, y] : List Str).length := rfl
  refine ks_codeAny_call_defAt (fd := fnX nm qual params body scope [("__class__", cc)] dV kV doc pm an (.ref cda) ct) (body := body) (binds := [s, y].zip us) hr.depth (KX _ _ lk) rfl lim (codeRec_of KX hcd) rfl hb S.nocell (fun ⟨n, _⟩ hy => S.par n (List.of_mem_zip hy).1) (fun h₀ hns kp => ?_) S.co S.gen S.kind
  have CA : CellsAt [("__class__", cc)] ["__class__"] [none] s0.heap H := by
    have hb0 : base.get? cc = some ⟨cl, cld, .cell (some (.ref C)), csl⟩ := e0.mod.kin _ _ hcell
    refine ⟨rfl, fun x c e => ?_, fun x1 x2 c e1 e2 => ?_, fun i x e => ?_⟩
    · have : c = cc ∧ x = "__class__" := by
        simp only [List.lookup_cons, List.lookup_nil] at e
        split at e
        · rename_i q
          exact ⟨(Option.some.inj e).symm, by simpa using q⟩
        · cases e
      rw [this.1]
      exact ⟨(e0.bs _ _ hb0).2, _, _, KX _ _ hcell, rfl⟩
    · have key : ∀ {x : Str}, ([("__class__", cc)] : List (Str × Addr)).lookup x = some c → x = "__class__" := fun {x} e => by
        simp only [List.lookup_cons, List.lookup_nil] at e
        split at e
        · rename_i q
          simpa using q
        · cases e
      rw [key e1, key e2]
    · match i, e with
      | 0, e =>
        cases e
        exact ⟨cc, rfl, fun v h => by cases h⟩
  let NFx : NF := ⟨nm, qual, params, body, scope, [("__class__", cc)], cda⟩
  have I : Inv (ncx CX P w K mg base [s, y, "__class__"] NFx f A outer s0 H E) [] (startF [s, y, "__class__"] [.ref a, v] [none]) H { s0 with heap := h₀, toks := s0.toks + ([s, y].zip us).length } := inv_startN (F := NFx) S hr.hd e0 hl r CA hns kp
  show PySem.wpAt (model P w) (A.deeper (envF NFx f s0.heap.objs.size)) (.func body (envF NFx f s0.heap.objs.size)) (execs body (envF NFx f s0.heap.objs.size)) _ _ _
  cases r with
  | @cons _ ua _ ur ra rr =>
  cases rr with
  | @cons _ uv _ ur2 rv rn =>
  cases rn
  obtain rfl : ua = Value.ref a := ra
  obtain ⟨nm0, q0, N0, bs0, bm0, sn0, sub0, ab0, col0, dd0, k00, k10, k20, k30, k50, hCo, hbm⟩ := I0.T.cls
  have hKC : h₀.get? C = some (excClassObj nm0 q0 C N0 bs0 bm0 true sn0 sub0 ab0 col0 dd0 k00 k10 k20 k30 k50 "ValueError.__new__") := kp _ _ (KX _ _ hCo)
  have hclO : clsIn K C = some { name := nm0, bases := bs0, mro := .ref C :: bm0, ns := N0, qualname := q0, hasDict := true, slotNames := sn0, subclasses := sub0, abstract := ab0, collection := col0, hasDel := false } := by unfold PySem.W.clsIn; rw [hCo] <;> rfl
  obtain ⟨t1, hexc⟩ := exo_at I.hok ha
  have hxC : a ≠ C := fun e => by
    have e1 := (e0.bs _ _ (e0.mod.kin _ _ hCo)).2
    rw [e, e1] at ha
    cases ha
  have KX0 : K.In h₀ := fun b o e => kp _ _ (KX b o e)
  obtain ⟨mb, hmb, hboot⟩ := e0.mod.blt
  rw [hbody]
  refine ks_wpAt_execs_cons (ks_wpAt_Expr_any ?_ I.quiet rfl)
  refine ks_wpAt_MethodCall ?_ (sup_eval hli)
  refine ks_wpAt_super_base (env := envF NFx f s0.heap.objs.size) (ar := ar) I0.ks (S.frk _ (List.mem_singleton_self _)) rfl rfl (KX0 _ _ lk) rfl hp rfl (KX0 _ _ hcode) rfl hvs hfile I0.top ?_
  have kb : ∀ b o, base.get? b = some o → h₀.get? b = some o := fun b o e => kp _ _ ((e0.bs b o e).1)
  refine ks_loadName_global S.kind I0.ks (loadGlobal_builtin (env := envF NFx f s0.heap.objs.size) (e0.mod.glob.keeps kb) I0.sup (hmb.keeps kb) ((hboot "super" (by decide)).trans (by kernel_rfl)) ⟨rfl, ?_⟩)
  refine wpAny_loadName_free S.kind (S.frk _ (List.mem_singleton_self _)) rfl ⟨_, KX0 _ _ hcell, rfl⟩ ?_
  have hks : scope.names.lookup s = some .local := S.par s (by simp)
  have hsy : s ≠ y := fun e => by
    have nd := S.nd
    rw [e] at nd
    simp at nd
  rw [har]
  refine wpAny_loadName_local (v := .ref a) S.kind hks hns (zip_look (ps := [s, y]) (us := [Value.ref a, uv]) (i := 0) (by simp [hsy]) rfl rfl) ?_
  refine ks_wpAny_isType_cls (KX0 _ _ hCo) rfl ⟨rfl, ?_⟩
  refine ks_wpAny_call_super (KX0 _ _ hCo) rfl hexc rfl (fun c e => by cases e) (looks_mroIn KX0 I0.mro) (fun h1 hso k1 => ?_)
  have KX1 : K.In h1 := fun b o e => k1 _ _ (KX0 b o e)
  have hexc1 := k1 _ _ hexc
  have IA : InstAt h1 a { cls := .ref C, dict := none, data := .fields #[.ref t1, .none, .none, .none, .bool false, .none] } C none := ⟨hexc1, rfl, rfl, trivial⟩
  refine kxs_getMethod kxs_ValueError hso (looks_opaque KX1 I0.opq) (l₀ := cdC.mro) (fun A Q E s k q => wpAny_bind ((looks_clsIn KX1 hcls) A _ E s k (wpAny_pure q))) rfl KX1 halong (IA.type.andThen (looks_subIn KX1 I0.sub)) hxC rfl ?_
  refine kxs_callWith (i := "ValueError.__init__") (x := a) rfl ?_
  have I1 : Inv (ncx CX P w K mg base [s, y, "__class__"] NFx f A outer s0 H E) [] (startF [s, y, "__class__"] [.ref a, v] [none]) H { s0 with heap := h1, toks := s0.toks + ([s, y].zip [Value.ref a, uv]).length } := I.kept k1
  have fp := I1.fpOk (H' := H) (Nat.le_refl _) I1.fresh
  have kq : ∀ b o, h1.get? b = some o → (h1.push (kxs_mw "ValueError.__init__" a)).get? b = some o := fun b o e => Heap.get?_push_of_some _ e
  have hu : (h1.push (kxs_mw "ValueError.__init__" a)).get? h1.objs.size = some (kxs_mw "ValueError.__init__" a) := Heap.get?_push_at rfl rfl
  have I2 := (I1.kept (t' := s0.toks + ([s, y].zip [Value.ref a, uv]).length + 1) kq).pinned (fp := [h1.objs.size]) (fun b hb => by
    rw [List.mem_singleton.mp hb]
    exact fp) (fun b hb => by
    rw [List.mem_singleton.mp hb]
    exact ⟨_, hu, fun v e => by cases e⟩)
  refine evalArgs_plain ?_
  have hpa : PA (ncx CX P w K mg base [s, y, "__class__"] NFx f A outer s0 H E) [.Constant (.str z) j p3] (tCons (tC (.str z)) tNil) := pa_cons pe_str pa_nil
  refine thn (hpa.run p4 _ _ _ H (fun vs H1 => vs = [V.str z] ∧ H = H1) I2 ⟨rfl, rfl⟩) fun us2 s2 ⟨vs2, H2, I3, r3, ev2, eH⟩ => ?_
  subst ev2
  subst eH
  have hu2 : s2.heap.get? h1.objs.size = some (kxs_mw "ValueError.__init__" a) := (I3.pin (h1.objs.size, kxs_mw "ValueError.__init__" a) (List.mem_append_right _ (List.mem_append_right _ (mem_pinsAt (List.mem_singleton_self _) hu)))).1
  refine ⟨hu2, ?_⟩
  obtain ⟨t2, hexc2⟩ := exo_at I3.hok ha
  have hlen : us2.length ≤ sizeLine := by
    rw [← Paired.length r3, sizeLine_eq]
    show 1 ≤ _
    omega
  have I4 := I3.unpinned
  obtain ⟨hp2, g2, d2, tk2, os2⟩ := s2
  show wpAny _ _ (call (.ref h1.objs.size) us2) _ _ _
  refine call_mw (I3.kIn _ _ hCo) hexc2 hu2 hlen fun h5 t5 k5 hx5 => ?_
  have J := I4.write (t' := tk2) (x := a) (e := a) (o := exo a C none) (by rw [ha]; exact True.intro) (.inl rfl) k5 ⟨_, hx5⟩ (exo_ok hx5)
  have eu : upd H a (exo a C none) = H := by
    funext b
    by_cases hb : b = a
    · rw [hb, upd_same, ha]
    · rw [upd_ne hb]
  rw [eu] at J
  refine wpAt_of_wpAny ?_
  have vs0 : PE (ncx CX P w K mg base [s, y, "__class__"] NFx f A outer s0 H E) (.Name s p6) (tVar 0) := pe_var rfl (.inl hks) (by simpa using hns1) (by simpa using hns3)
  have vy0 : PE (ncx CX P w K mg base [s, y, "__class__"] NFx f A outer s0 H E) (.Name y p8) (tVar 1) := pe_var rfl (.inl (S.par y (by simp))) (by simpa using hny1) (by simpa using hny3)
  have ps := pss_one (ps_ost (X := ncx CX P w K mg base [s, y, "__class__"] NFx f A outer s0 H E) (f := fld) (p' := p7) (pos := p9) vs0 vy0)
  refine wpAny_mono (ps.run _ _ _ H { nx := fun _ H' => Q .non H', rt := Q } J ?_) (fun fl s' hs => ?_) fun e s' hs => hs
  · refine ⟨v, rfl, .ref a, rfl, a, C, rfl, I0.T, I0.fld, .inl ⟨ha, fun dx h1 h2 => hq dx h1 h2⟩⟩
  have fin : ∀ {σ' : L2.St} {H' : Hp} {v : V} {u : Value}, Inv (ncx CX P w K mg base [s, y, "__class__"] NFx f A outer s0 H E) [] σ' H' s' → L2.RelV v u → Q v H' → CE outer P w H s0 Q u s' :=
    fun {σ' H' v u} J rv q => ⟨v, H', J.os, J.bare, J.base, J.hok, rv, q⟩
  cases fl with
  | ret u =>
    obtain ⟨v, σ', H', J, rv, q⟩ := hs
    exact fin J rv q
  | next =>
    obtain ⟨σ', H', J, q⟩ := hs
    exact fin (v := V.non) (u := Value.none) J rfl q
  | brk =>
    obtain ⟨_, _, _, q⟩ := hs
    exact False.elim q
  | cont =>
    obtain ⟨_, _, _, q⟩ := hs
    exact False.elim q
end MX
namespace MX
open PySem PySem.Spec PyProof.Rows L2 PySem.W NdefX PySem.Calls
theorem an2 {a b : Bool} (h : (a && b) = true) : a = true ∧ b = true := Bool.and_eq_true_iff.mp h
def stmtsB (b : List Stmt) : Bool := match b with
  | [.Expr (.Call (.Attribute (.Call (.Name su _) [] [] _) ini p2) [.Constant (.str _) _ _] [] p4) _, .Assign [.Attribute (.Name s _) fld _] (.Name y _) _] => decide (su = "super") && decide (ini = "__init__") && decide (s = "self") && decide (fld = "line") && decide (y = "line") && (p2.endLine == p4.line)
  | _ => false
theorem stmtsB_ok {b : List Stmt} (h : stmtsB b = true) : ∃ (z : Str) (j : Nat) (p0 p1 p2 p3 p4 p5 p6 p7 p8 p9 : Pos), (p2.endLine == p4.line) = true ∧
    b = [.Expr (.Call (.Attribute (.Call (.Name "super" p0) [] [] p1) "__init__" p2) [.Constant (.str z) j p3] [] p4) p5, .Assign [.Attribute (.Name "self" p6) "line" p7] (.Name "line" p8) p9] := by
  unfold stmtsB at h
  split at h
  · obtain ⟨h, h6⟩ := an2 h
    obtain ⟨h, h5⟩ := an2 h
    obtain ⟨h, h4⟩ := an2 h
    obtain ⟨h, h3⟩ := an2 h
    obtain ⟨h1, h2⟩ := an2 h
    have h1 := of_decide_eq_true h1
    have h2 := of_decide_eq_true h2
    have h3 := of_decide_eq_true h3
    have h4 := of_decide_eq_true h4
    have h5 := of_decide_eq_true h5
    subst h1 h2 h3 h4 h5
    exact ⟨_, _, _, _, _, _, _, _, _, _, _, _, h6, rfl⟩
  · cases h
def paramsB (a : Arguments) : Bool := match a with
  | ⟨[], [a, b], none, [], [], none, []⟩ => decide (a.arg = "self") && decide (b.arg = "line")
  | _ => false
theorem paramsB_ok {a : Arguments} (h : paramsB a = true) : ∃ (n1 n2 : Option Expr) (q1 q2 : Pos), a = ⟨[], [⟨"self", n1, q1⟩, ⟨"line", n2, q2⟩], none, [], [], none, []⟩ := by
  unfold paramsB at h
  split at h
  · rename_i a b
    obtain ⟨h1, h2⟩ := an2 h
    have h1 := of_decide_eq_true h1
    have h2 := of_decide_eq_true h2
    obtain ⟨a1, a2, a3⟩ := a
    obtain ⟨b1, b2, b3⟩ := b
    dsimp only at h1 h2
    subst h1 h2
    exact ⟨_, _, _, _, rfl⟩
  · cases h
def cellB (K : PySem.W.Frag) (cc C : Addr) : Bool := match K.lookup cc with
  | some ⟨_, _, .cell (some (.ref C')), _⟩ => decide (C' = C)
  | _ => false
theorem cellB_ok {K : PySem.W.Frag} {cc C : Addr} (h : cellB K cc C = true) : ∃ (cl : Value) (cld : Option Addr) (csl : Array (Option Value)), K.lookup cc = some ⟨cl, cld, .cell (some (.ref C)), csl⟩ := by
  unfold cellB at h
  split at h
  · rename_i e
    rw [of_decide_eq_true h] at e
    exact ⟨_, _, _, e⟩
  · cases h
def codeFB (K : PySem.W.Frag) (cda : Addr) (file : Str) : Bool := match K.lookup cda with
  | some ⟨_, _, .fields vs, _⟩ => (match (vs[2]? : Option Value) with
    | some (.str f _) => decide (f = file)
    | _ => false)
  | _ => false
theorem codeFB_ok {K : PySem.W.Frag} {cda : Addr} {file : Str} (h : codeFB K cda file = true) : ∃ (ccl : Value) (cdd : Option Addr) (vs : Array Value) (ccs : Array (Option Value)) (tf : Tok), K.lookup cda = some ⟨ccl, cdd, .fields vs, ccs⟩ ∧ vs[2]? = some (.str file tf) := by
  unfold codeFB at h
  split at h
  · rename_i e
    split at h
    · rename_i e2
      rw [of_decide_eq_true h] at e2
      exact ⟨_, _, _, _, _, e, e2⟩
    · cases h
  · cases h
def oexB (K : PySem.W.Frag) (C : Addr) : Bool := (match K.lookup C with
  | some ⟨.type "type", _, .cls cd, sl⟩ => (match cd.mro, sl.toList with
    | .ref C' :: bm, [_, _, _, _, some (.builtin n), _] => C' == C && n == "ValueError.__new__" && !cd.hasDel && cd.hasDict && PySem.HandSPX.refsVE bm
    | _, _ => false)
  | _ => false) && decide (PySem.W.findIn K (.ref C) "__setattr__" = some (some (.builtin "object.__setattr__"))) && decide (PySem.W.subIn K (.ref C) (.type "BaseException") = some true) && decide (PySem.W.typeIn K (.ref C) = some (.type "type")) && PySem.W.keepIn K (.ref C)
theorem oexB_ok {K : PySem.W.Frag} {C : Addr} (h : oexB K C = true) : OexC K C := by
  obtain ⟨h, h5⟩ := an2 h
  obtain ⟨h, h4⟩ := an2 h
  obtain ⟨h, h3⟩ := an2 h
  obtain ⟨q, h2⟩ := an2 h
  refine ⟨?_, of_decide_eq_true h2, of_decide_eq_true h3, of_decide_eq_true h4, h5⟩
  split at q
  · rename_i dd cd sl ho
    split at q
    · rename_i C' bm k0 k1 k2 k3 n k5 hm hs
      simp only [Bool.and_eq_true, beq_iff_eq, Bool.not_eq_true'] at q
      obtain ⟨⟨⟨⟨rfl, rfl⟩, hdel⟩, hdc⟩, ht⟩ := q
      obtain ⟨nm, bs, mro, ns, qn, hd, sn, sub, ab, col, del⟩ := cd
      dsimp only at hm hdel hdc
      subst hm hdel hdc
      have hsl : sl = #[k0, k1, k2, k3, some (.builtin "ValueError.__new__"), k5] := by
        obtain ⟨l⟩ := sl
        simp only at hs
        rw [hs]
      subst hsl
      exact ⟨nm, qn, ns, bs, bm, sn, sub, ab, col, dd, k0, k1, k2, k3, k5, ho, ht⟩
    · cases q
  · cases q
def supB (K : PySem.W.Frag) (C : Addr) : Bool := match PySem.W.clsIn K C with
  | some cd => decide (alongIn K "__init__" ((cd.mro.dropWhile (· != .ref C)).drop 1) = some (some (.builtin "ValueError.__init__")))
  | none => false
def fdB (K : PySem.W.Frag) (C : Addr) (file : Str) (fd : FuncData) : Bool := match fd.body, fd.closure, fd.code with
  | .stmts b, [(c0, cc)], .ref cda => stmtsB b && decide (fd.defaults = .none) && decide (c0 = "__class__") && paramsB fd.params && nscB ["self", "line", "__class__"] ["self", "line"] ["__class__"] fd.scope && decide (fd.scope.names.lookup ("super" : Str) = some .globalImplicit) &&
      codeIn K (.ref cda) fd.qualname && decide (fd.globals = mainGlobals) && decide (fd.builtins = builtinsNs) && cellB K cc C && codeFB K cda file
  | _, _, _ => false
/-- all that the written part says of X, whose __init__ takes the line -/
def xinB (K : PySem.W.Frag) (x file : Str) : Bool := (He.Fa.glo x).ok K && (He.Fa.free "super").ok K && oexB K (He.ga K x) && supB K (He.ga K x) && decide (mroIn K (He.ga K x) (.ref (He.ga K x)) = some true) && decide (subIn K (.ref (He.ga K x)) (.type "ValueError") = some true) &&
  decide (nsIn K cStatics "thirdparty.any" = some none) && decide (findIn K (.ref (He.ga K x)) "line" = some none) && decide (findIn K (.ref (He.ga K x)) "__init__" = some (some (.ref (He.ma K (He.ga K x) "__init__")))) && decide (typeIn K (.ref (He.ma K (He.ga K x) "__init__")) = some (.type "function")) &&
  (match K.lookup (He.ma K (He.ga K x) "__init__") with
    | some ⟨_, _, .func fd, _⟩ => fdB K (He.ga K x) file fd
    | _ => false)
structure XinF (K : PySem.W.Frag) (mg : Str → Option Value) (x file : Str) : Prop where
  ex : ∃ (f : Addr) (fd : FuncData), OexC K (He.ga K x) ∧ findIn K (.ref (He.ga K x)) "__init__" = some (some (.ref f)) ∧ typeIn K (.ref f) = some (.type "function") ∧ mg x = some (.ref (He.ga K x)) ∧ findIn K (.ref (He.ga K x)) "line" = some none ∧ Binds K fd ["self", "line"] [] ∧
    ∀ (CX : CXT) (P : Program) (w : World) (base : Heap) (k : Nat), ((P.main.file : Str) == file) = true → (P.main.scope.names.lookup ("super" : Str)).isSome = false → FnOk P w K mg base CX (k + 1) f fd ["self", "line"] (initSp (He.ga K x) "line")
theorem xinB_ok {K : PySem.W.Frag} {h : Heap} {mg : Str → Option Value} (X : K.In h) (G : h.Ns mainGlobals mg) {x file : Str} (q : xinB K x file = true) : XinF K mg x file := by
  obtain ⟨q, h11⟩ := an2 q
  obtain ⟨q, h10⟩ := an2 q
  obtain ⟨q, h9⟩ := an2 q
  obtain ⟨q, h8⟩ := an2 q
  obtain ⟨q, h7⟩ := an2 q
  obtain ⟨q, h6⟩ := an2 q
  obtain ⟨q, h5⟩ := an2 q
  obtain ⟨q, h4⟩ := an2 q
  obtain ⟨q, h3⟩ := an2 q
  obtain ⟨h1, h2⟩ := an2 q
  have sup := He.free_ok X G h2
  have T := oexB_ok h3
  have g4 : ∃ cd, clsIn K (He.ga K x) = some cd ∧ alongIn K "__init__" ((cd.mro.dropWhile (· != .ref (He.ga K x))).drop 1) = some (some (.builtin "ValueError.__init__")) := by
    unfold supB at h4
    split at h4
    · rename_i cd e
      exact ⟨cd, e, of_decide_eq_true h4⟩
    · cases h4
  split at h11
  · rename_i oc od fd osl lk
    unfold fdB at h11
    split at h11
    · rename_i b c0 cc cda e1 e2 e3
      obtain ⟨h11, g10⟩ := an2 h11
      obtain ⟨h11, g9⟩ := an2 h11
      obtain ⟨h11, g8⟩ := an2 h11
      obtain ⟨h11, g7⟩ := an2 h11
      obtain ⟨h11, g6⟩ := an2 h11
      obtain ⟨h11, g5⟩ := an2 h11
      obtain ⟨h11, gs⟩ := an2 h11
      obtain ⟨h11, g3⟩ := an2 h11
      obtain ⟨h11, g2⟩ := an2 h11
      obtain ⟨g1, gd⟩ := an2 h11
      have k2 := of_decide_eq_true g2
      have k7 := of_decide_eq_true g7
      have k8 := of_decide_eq_true g8
      have kd := of_decide_eq_true gd
      clear g2 g7 g8 gd
      obtain ⟨nm, qn, pa, bo, sc, gl, clo, dv, kv, doc, pm, an, code, ct, bu⟩ := fd
      dsimp only at e1 e2 e3 g3 g5 g6 k7 k8 gs kd
      subst e1 e2 e3 k2 k7 k8 kd
      obtain ⟨z, j, p0, p1, p2, p3, p4, p5, p6, p7, p8, p9, hli, hb⟩ := stmtsB_ok g1
      obtain ⟨n1, n2, q1, q2, hpa⟩ := paramsB_ok g3
      obtain ⟨ccl, cdd, vsc, ccs, tf, hc1, hc2⟩ := codeFB_ok g10
      refine ⟨He.ma K (He.ga K x) "__init__", (⟨nm, qn, pa, .stmts b, sc, mainGlobals, [("__class__", cc)], .none, kv, doc, pm, an, .ref cda, ct, builtinsNs⟩ : FuncData), T, of_decide_eq_true h9, of_decide_eq_true h10, He.glo_ok X G h1, of_decide_eq_true h8, Binds.all (fun us hl => ?_), fun CX P w base k hf ht => ?_⟩
      · rw [hpa]
        match us, hl with
        | [u1, u2], _ => rfl
      · exact init_ok (s := "self") (y := "line") (fld := "line") (ar := ⟨"self", n1, q1⟩) lk g6 ⟨T, ⟨ccl, cdd, vsc, ccs, file, tf, hc1, hc2, hf⟩, cellB_ok g9, g4, of_decide_eq_true h5, of_decide_eq_true h6, of_decide_eq_true h7, of_decide_eq_true h8, ht, sup, nscope_by gs, of_decide_eq_true g5⟩ hb (by rw [hpa]; rfl) rfl (by decide) (by decide) (by decide) (by decide) hli
    · cases h11
  · cases h11
/-! ### raising it -/
def tMkI (C : Addr) (te : TE) : L2.St → Hp → XK → Prop := fun σ H Q => te σ H fun v H1 => ∀ d : Addr, H1 d = none → Q (.ref C) (some d) (upd H1 d (.xd [("line", v)]))
theorem pmk_init {X : Cx} {CX : CXT} {x : Str} {C fI : Addr} {k : Nat} {fd : FuncData} {e : Expr} {te : TE} {p pos : Pos} (T : OexC X.K C) (iC : PySem.W.findIn X.K (.ref C) "__init__" = some (some (.ref fI))) (tI : PySem.W.typeIn X.K (.ref fI) = some (.type "function"))
    (F1 : FnOk X.prog X.w X.K X.mg X.base (L2N.CX X.prog X.w) k fI fd ["self", "line"] (initSp C "line")) (hr : Room (k + 1) X.A) (hb : Binds X.K fd ["self", "line"] []) (hg : Gl X x) (hm : X.mg x = some (.ref C)) (he0 : PE X e te)
    (hdb : (x == ("__debug__" : Str)) = false) (he : starEach [e] X.env = (false, PySem.eval e X.env) :: starEach [] X.env) :
    L2N.PMk X (.Call (.Name x p) [e] [] pos) (tMkI C te) := by
  intro pins s σ H Q I h
  obtain ⟨nm, q, N, bs, bm, sn, sub, ab, col, dd, k0, k1, k2, k3, k5, hC, hbm⟩ := T.cls
  have ha : PA X [e] (tCons te tNil) := pa_cons he0 pa_nil he
  refine wpAny_Call_Name_kw (ld_glob I hg hm ?_ hdb)
  refine PySem.W.callWith_K (h₀ := X.base) I.ok.mod.kin T.kC (thn (ha.run pos pins s σ H (fun vs H1 => match vs with
    | [v] => ∀ d : Addr, H1 d = none → Q (.ref C) (some d) (upd H1 d (.xd [("line", v)]))
    | _ => False) I h) fun us s1 ⟨vs, H1, I1, r1, q1⟩ => ⟨I1.kIn, ?_⟩) he rfl
  show wpAny _ _ (call (.ref C) us) _ _ _
  match vs, q1 with
  | [v], q1 =>
  obtain ⟨hp, g, dr, tk, os⟩ := s1
  have hsz : hp.objs.size ≤ hp.objs.size + 1 := Nat.le_succ _
  have hn : H1 (hp.objs.size + 1) = none := I1.hok.fresh hsz
  have kk : ∀ b o, hp.get? b = some o → ((hp.push (PySem.W.kdv_tup us)).push (PySem.HandSPX.excO C hp.objs.size)).get? b = some o := fun b o e => Heap.get?_push_of_some _ (Heap.get?_push_of_some _ e)
  have hget : ((hp.push (PySem.W.kdv_tup us)).push (PySem.HandSPX.excO C hp.objs.size)).get? (hp.objs.size + 1) = some (PySem.HandSPX.excO C hp.objs.size) := by heap_get
  have I2 : Inv X pins σ (upd H1 (hp.objs.size + 1) (exo (hp.objs.size + 1) C none)) ⟨(hp.push (PySem.W.kdv_tup us)).push (PySem.HandSPX.excO C hp.objs.size), g, dr, tk, os⟩ :=
    I1.laid (t' := tk) (a := hp.objs.size + 1) (o := exo (hp.objs.size + 1) C none) (h' := (hp.push (PySem.W.kdv_tup us)).push (PySem.HandSPX.excO C hp.objs.size)) kk hsz (exo_ok hget)
  have r2 : Vals [V.ref (hp.objs.size + 1), v] (Value.ref (hp.objs.size + 1) :: us) := .cons rfl r1
  have hus : us.length = 1 := (Paired.length r1).symm
  have hl : (Value.ref (hp.objs.size + 1) :: us ++ []).length = (["self", "line"] : List Str).length := by
    rw [List.append_nil, List.length_cons, hus]
    rfl
  have hus2 : us.length ≤ sizeLine := by
    rw [hus, sizeLine_eq]
    omega
  have hB := hb ⟨(hp.push (PySem.W.kdv_tup us)).push (PySem.HandSPX.excO C hp.objs.size), g, dr, tk, os⟩ (Value.ref (hp.objs.size + 1) :: us) I2.kIn hl
  rw [List.append_nil] at hB
  refine wpAny_call (PySem.HandSPX.call_own F.excBase_ValueError (fun Y => PySem.HandSPX.refsVE_contains Y bm hbm) (I1.kIn _ _ hC) (PySem.W.looks_findIn I1.kIn iC) (fun self => PySem.W.bind_fn I1.kIn self tI) hus2
    (codeAny_mono (F1.run _ X.stack _ (upd H1 (hp.objs.size + 1) (exo (hp.objs.size + 1) C none)) ⟨Value.ref (hp.objs.size + 1) :: us, []⟩ (Value.ref (hp.objs.size + 1) :: us) [V.ref (hp.objs.size + 1), v]
      (fun u H2 => u = .non ∧ ∃ dx : Addr, H1 dx = none ∧ dx ≠ hp.objs.size + 1 ∧ H2 = upd (upd (upd H1 (hp.objs.size + 1) (exo (hp.objs.size + 1) C none)) dx (exd dx [("line", v)])) (hp.objs.size + 1) (exo (hp.objs.size + 1) C (some dx))) (fun _ _ _ => False) (hr.make C us []) (I2.env0.make C us []) hB r2
      ⟨hp.objs.size + 1, v, rfl, upd_same, fun dx h1 h2 => ⟨rfl, dx, by rw [upd_ne h2] at h1; exact h1, h2, rfl⟩⟩) fun r s' hq' => ?_))
  cases r with
  | error er =>
    obtain ⟨_, _, _, _, _, _, _, _, _, _, _, _, z⟩ := hq'
    exact z.elim
  | ok fl =>
    cases fl with
    | ret u =>
      obtain ⟨v2, H2, os2, bare2, un2, hok2, rv, ev, d, hd1, hd2, eH⟩ := hq'
      subst ev
      obtain ⟨h2, g2, d2, t2, os'⟩ := s'
      have ea : H2 (hp.objs.size + 1) = some (exo (hp.objs.size + 1) C (some d)) := by rw [eH, upd_same]
      have ed : H2 d = some (exd d [("line", v)]) := by rw [eH, upd_ne hd2, upd_same]
      obtain ⟨t0, G, J, kG, ge, hoe, na⟩ := mk_end0 (d2 := d2) (t2 := t2) I1 hsz kk un2 hok2 os2 bare2 ea ed hd1
      have eF : upd (del H2 (hp.objs.size + 1)) d (.xd [("line", v)]) = upd H1 d (.xd [("line", v)]) := by
        funext b
        by_cases hb : b = d
        · rw [hb, upd_same, upd_same]
        · rw [upd_ne hb, upd_ne hb]
          by_cases hb2 : b = hp.objs.size + 1
          · rw [hb2, del_same, hn]
          · rw [del_ne hb2, eH, upd_ne hb2, upd_ne hb, upd_ne hb2]
      rw [eF] at J na
      exact ⟨rv, hp.objs.size + 1, _, _, ⟨G, g2, d2, t2, os'⟩, _, .ref C, some d, rfl, J, kG, ge, hoe, ⟨rfl, rfl, fun vs e => by cases e; rfl⟩, rfl, rfl, na, rfl, bare2, raises_own T.exC T.tyC, q1 d hd1⟩
    | next => exact False.elim hq'
    | brk => exact False.elim hq'
    | cont => exact False.elim hq'
end MX
/-! isinstance of a caught error whose instances may have a dict; a caught error's line. -/
namespace PySem.W
open PySem PySem.Spec PySem.Calls PyProof.Rows
section
variable {prog : Program} {w : World} {A : Around} {E : Value → Shared → Prop} {s : Shared} {K : Frag} {x D : Addr} {ox : Obj} {od : Option Obj}
theorem findObj_dataD {C : Addr} {name : Str} {a g : Value} (hc : (clsIn K C).isSome = true) (ha : findIn K (.ref C) name = some (some a)) (hg : specialIn K a "__get__" = some (some g)) (ht : takesIn K a = some true) : findObj K C od name = some (.bind g a) := by
  obtain ⟨cd, hc⟩ := Option.isSome_iff_exists.mp hc
  unfold findObj
  rw [hc, Option.bind_some, ha, Option.bind_some]
  simp [hg, ht]
theorem kin_classD {Q : Option Value → Shared → Prop} (hga : findIn K (.ref D) "__getattribute__" = some (some (.builtin "BaseException.__getattribute__"))) (hgt : findIn K (.ref D) "__getattr__" = some none) (hsub : subIn K (.ref D) (.type "BaseException") = some true)
    (hdct : hasDictIn K D = true) (ha : findIn K (.ref D) "__class__" = some (some (.builtin "object.__class__")))
    (hn : specialIn K (.builtin "object.__class__") "__get__" = some (some (.builtin "getset_descriptor.__get__"))) (htk : takesIn K (.builtin "object.__class__") = some true) (hm : mroIn K D (.type "object") = some true)
    (X : K.In s.heap) (I : InstAt s.heap x ox D od) (h : Q (some (.ref D)) { s with toks := s.toks + 1 }) : wpAny (model prog w) A (getAttr? (.ref x) "__class__") Q E s := by
  have hf : findObj K D od "__class__" = some (.bind (.builtin "getset_descriptor.__get__") (.builtin "object.__class__")) := findObj_dataD (by obtain ⟨cd, hc, _⟩ := any_some hdct; rw [hc]; rfl) ha hn htk
  obtain ⟨hp, g, d, t, os⟩ := s
  have L0 := I.type (M := model prog w)
  have L1 := looks_findIn (M := model prog w) X hga
  have L2 := looks_findIn (M := model prog w) X hgt
  have L3 := looks_find (M := model prog w) X I hf
  have sub : Looks (model prog w) hp (isInstance (.ref x) (.type "BaseException")) true := L0.andThen (looks_subIn X hsub)
  have hx0 : (false && onTheHeap (Value.builtin "BaseException.__getattribute__")) = false := rfl
  have hx2 : (Value.builtin "BaseException.__getattribute__" == Value.builtin "object.__getattribute__") = false := by decide +kernel
  have hx1 : (onTheHeap (Value.ref D) && Value.builtin "BaseException.__getattribute__" == Value.builtin "object.__getattribute__") = false := by rw [hx2]; rfl
  unfold getAttr? getAttrBy? getAttrBy
  refine wpAny_bind (wpAny_mkText (wpAny_bind (wpAny_attempt (wpAny_holding (wpAny_bind (L0.at (wpAny_bind (L1.at ?_))))))))
  show wpAny _ _ (if (onTheHeap (Value.ref D) && Value.builtin "BaseException.__getattribute__" == Value.builtin "object.__getattribute__") = true then _ else _) _ _ _
  rw [hx1, if_neg Bool.false_ne_true]
  unfold getAttrByItsOwn hookBefore
  refine wpAny_bind ?_
  rw [if_pos (show onTheHeap (Value.ref D) = true from rfl)]
  refine L2.at ?_
  refine wpAny_bind (wpAny_attempt (wpAny_holding ?_))
  unfold callGetattribute
  rw [hx0, if_neg Bool.false_ne_true]
  unfold boundAndCalled
  rw [PySem.F.excAttr_ValueError.ga.bind (.ref x)]
  refine wpAny_bind (wpAny_pure ?_)
  show wpAny _ _ (call (.builtin "BaseException.__getattribute__") [.ref x, .str "__class__" t]) _ _ _
  refine wpAny_call (codeAny_call_builtin PySem.F.excAttr_ValueError.ga.plain PySem.F.entry_bexc_ga ?_)
  refine @check_slot (model prog w) _ _ ⟨hp, g, d, t + 1, os⟩ "BaseException.__getattribute__" "BaseException" "__getattribute__" (.ref x) [.str "__class__" t] [] _ (by decide +kernel) (by decide +kernel) sub (PySem.F.args_bexc_ga (.ref x) (.str "__class__" t)) ?_
  unfold Builtin.«object.__getattribute__»
  refine wpAny_bind (wpAny_of_eq (a := ((Value.ref x : Value), [Value.str "__class__" t])) (by first | rfl | (simp only [slotArgs]; rfl)) ?_)
  refine wpAny_bind (wpAny_pure (wpAny_bind (L0.at (wpAny_bind (L3.at ?_)))))
  show wpAny _ _ (holding [Value.builtin "object.__class__"] (call (.builtin "getset_descriptor.__get__") [.builtin "object.__class__", .ref x, .ref D]) >>= ret) _ _ _
  refine wpAny_bind (wpAny_holding (wpAny_call (class_get (s := ⟨hp, g, d, t + 1, os⟩) (ox := ox) (od := od) X I hm ?_)))
  refine wpAny_pure ?_
  show wpAny _ _ (handedOut (.ref D)) _ _ _
  rw [handedOut_of (v := .ref D) rfl]
  first
    | exact wpAny_pure (wpAny_pure h)
    | exact wpAny_pure h
    | exact wpAny_pure (wpAny_bind (wpAny_pure (wpAny_pure h)))
theorem kitx_excD (hga : findIn K (.ref D) "__getattribute__" = some (some (.builtin "BaseException.__getattribute__"))) (hgt : findIn K (.ref D) "__getattr__" = some none) (hsub : subIn K (.ref D) (.type "BaseException") = some true) (hdct : hasDictIn K D = true) (ha : findIn K (.ref D) "__class__" = some (some (.builtin "object.__class__")))
    (hn : specialIn K (.builtin "object.__class__") "__get__" = some (some (.builtin "getset_descriptor.__get__"))) (htk : takesIn K (.builtin "object.__class__") = some true) (hm : mroIn K D (.type "object") = some true) :
    KitX K (.ref x) (.ref D) (fun h => InstAt h x ox D od) where
  ty := fun _ _ _ I => I.type
  it := fun _ _ X _ => by
    obtain ⟨cdD, hcD, _⟩ := any_some hdct
    unfold clsIn at hcD
    split at hcD
    · rename_i c' d' cd' sl' ho
      intro A' Q' E' s' k q
      unfold isType loadHead
      exact wpAny_bind (wpAny_loadPart (k _ _ (X _ _ ho)) (wpAny_pure q))
    · cases hcD
  ne := fun h tp dd its n sl X htp => by
    obtain ⟨cdD, hcD, _⟩ := any_some hdct
    refine Bool.eq_false_iff.mpr fun q => ?_
    have e : D = tp := Value.ref.inj (beq_iff_eq.mp q)
    subst e
    unfold clsIn at hcD
    split at hcD
    · rename_i c' d' cd' sl' ho
      have z := (X _ _ ho).symm.trans htp
      cases z
    · cases hcD
  ca := fun X I k => kin_classD hga hgt hsub hdct ha hn htk hm X I k
end
end PySem.W
namespace L2
open PySem PySem.Spec PyProof.Rows
/-- the dict of a caught error, if it has one -/
def DX (d : Option Addr) (H : Hp) : Prop := d = none ∨ ∃ (dx : Addr) (fs : List (Str × V)), d = some dx ∧ H dx = some (.xd fs)
theorem DX.none {H : Hp} : DX none H := .inl rfl
def rIsD (K : PySem.W.Frag) (D a : Addr) (d : Option Addr) : List V → Hp → VK → Prop := fun xs H Q => DX d H ∧ ∃ (c : V) (cv : Value) (b : Bool), xs = [.ref a, c] ∧ (∀ u, RelV c u → u = cv) ∧ PySem.W.kitOne K (.ref D) cv = some b ∧ Q (.bl b) H
theorem call_isD {X : Cx} {a D : Addr} {d : Option Addr} {oe : Obj} {pn : List (Addr × Obj)} (C : ExcC X.K D) (hz : Zc (.ref D) d oe) (hf : ∃ vs, oe.data = .fields vs) : CallR (X.suite a ((a, oe) :: pn)) (.builtin "isinstance") (rIsD X.K D a d) := by
  intro pins s σ H xs us Q I r h
  obtain ⟨hd, c, cv, b, rfl, hcv, e, q⟩ := h
  cases r with
  | cons rx rr =>
    cases rr with
    | cons rt rr =>
      cases rr
      cases rx
      have ec := hcv _ rt
      subst ec
      obtain ⟨hget, _⟩ := I.pin (a, oe) (List.mem_append.mpr (.inl List.mem_cons_self))
      obtain ⟨vs, hv⟩ := hf
      have J : ∃ od, PySem.W.InstAt s.heap a oe D od := by
        obtain ⟨oc, od, oda, osl⟩ := oe
        obtain ⟨h1, h2⟩ := hz
        dsimp only at h1 h2 hv
        subst h1 h2 hv
        rcases hd with rfl | ⟨dx, fs, rfl, ea⟩
        · exact ⟨none, hget, rfl, rfl, trivial⟩
        · have hx : ObjOk X.prog X.w H s.heap dx (.xd fs) := I.hok dx _ ea
          obtain ⟨mA, hns, hr⟩ := hx
          obtain ⟨od, ho, hl⟩ := lookIn_ns hns
          exact ⟨some od, hget, rfl, rfl, ho⟩
      obtain ⟨od, J⟩ := J
      exact PySem.W.kia_one (PySem.W.kitx_excD C.hg C.hk C.hs C.hd C.ha C.hn C.ht C.hm) I.kIn J e (fun z => nomatch z) fun tk => ⟨.bl b, H, I.kept (t' := tk) fun _ _ z => z, rfl, q⟩
end L2
/-! Mini: own operators with a plain second, instances called, class methods, classes called with defaults or through a name. -/
namespace PySem.W
open PySem PySem.Spec PySem.Calls PyProof.Rows
/-- ksp_binT for any value whose type is looked up -/
theorem binT_L {prog : Program} {w : World} {A : Around} {E : Value → Shared → Prop} {s : Shared} {K : Frag} {x C L f : Addr} {h₀ : Heap} {m : Str → Option Value} {ox : Obj} {od : Option Obj} {T : String} {op : Operator} {b : Value} {fo ro rc : Option Value} {Q : Value → Shared → Prop} (F : Fr h₀ L s.heap m) (X₀ : K.In h₀) (I : InstAt s.heap x ox C od) (hb : Looks (model prog w) s.heap (typeOf b) (.type T)) (hc : selfFirst K C = true)
    (hs : findIn K (.ref C) (PySem.dunder op.info.2) = some (some (.ref f))) (hf : isFn K (.ref f) = true) (hr : findIn K (.ref C) (dunderR op.info.2) = some rc) (hp : rc = none ∨ ∃ g : Addr, rc = some (.ref g))
    (h1 : findIn K (.type T) (PySem.dunder op.info.2) = some fo) (h2 : findIn K (.type T) (dunderR op.info.2) = some ro) (hsub : subIn K (.type T) (.ref C) = some false)
    (h : wpAny (model prog w) A (call (.ref f) [.ref x, b]) (CmpBack Q) E s) : wpAny (model prog w) A (binaryOp op (.ref x) b) Q E s := by
  have X := X₀.keeps F.keep
  obtain ⟨cd, rest, hcd, hm⟩ := ksp_first hc
  rcases hi : op.info with ⟨sym, nm'⟩
  rw [hi] at hs hr h1 h2
  dsimp only at hs hr h1 h2
  have one := ksp_try X I hs hf h
  obtain ⟨hh, g, d, tt, os⟩ := s
  have L1 : Looks (model prog w) hh (typeOf (.ref x)) (.ref C) := I.type
  have L2 : Looks (model prog w) hh (typeOf b) (.type T) := hb
  have L3 : Looks (model prog w) hh (fillsNumberSlot (.ref C) nm') true := fills_K X hcd hm hs
  have L4 : Looks (model prog w) hh (fillsNumberSlot (.type T) nm') ((fo.isSome && !isSeqSlot fo) || (ro.isSome && !isSeqSlot ro)) := ksp_fillsT X h1 h2
  have L5 : Looks (model prog w) hh (isSubtype (.type T) (.ref C)) false := looks_subIn X hsub
  have L6 : Looks (model prog w) hh (numberSlotInPython (.ref C) nm') true := ksp_inPy X hs hr hp
  have L7 : Looks (model prog w) hh (numberSlotInPython (.type T) nm') false := Looks.of_pure rfl
  have L8 : Looks (model prog w) hh (typeLookup (.type T) (dunderR nm')) ro := looks_findIn X h2
  generalize ((fo.isSome && !isSeqSlot fo) || (ro.isSome && !isSeqSlot ro)) = right at L4
  have hne : (Value.ref C == Value.type T) = false := Bool.eq_false_iff.mpr fun q => by cases beq_iff_eq.mp q
  simp only [binaryOp, hi]
  refine wpAny_holding (wpAny_bind ?_)
  unfold binaryOp1
  refine wpAny_bind (L1.at (wpAny_bind (L2.at (wpAny_bind (L3.at ?_)))))
  simp only [hne, Bool.false_eq_true, if_false]
  cases right with
  | false =>
    ksp_lk
    refine wpAny_mono one (fun r s' hr' => ?_) fun _ _ e => e
    obtain ⟨v, rfl, hq⟩ := hr'
    ksp_lk
    exact hq
  | true =>
    ksp_lk
    refine wpAny_mono one (fun r s' hr' => ?_) fun _ _ e => e
    obtain ⟨v, rfl, hq⟩ := hr'
    ksp_lk
    exact hq
section
variable {M : Model} {A : Around} {E : Value → Shared → Prop} {s : Shared} {env : Env} {pos : Pos} {C : Addr} {u : Value} {first : List Value} {Q : Value → Shared → Prop}
theorem callWithO_of {args : List (Bool × Sem Value)} {keywords : List (Option Str × Sem Value)} (hplain : (args.any (·.1) || keywords.any (·.1.isNone)) = false)
    (h : wpAny M A (evalArgs u true args keywords) (fun a s₁ => (∃ x ox od, u = .ref x ∧ ox.data = .plain ∧ InstAt s₁.heap x ox C od) ∧ wpAny M A (call u (first ++ a.pos) a.kw) Q E s₁) E s) : wpAny M A (callWith pos u first args keywords) Q E s := by
  unfold callWith
  refine wpAny_bind (wpAny_holding (wpAny_mono h (fun a s₁ h₁ => wpAny_bind (wpAny_standAt ?_)) fun _ _ y => y))
  obtain ⟨⟨x, ox, od, rfl, hd, I⟩, h2⟩ := h₁
  have L := kco_keeper (M := M) I hd
  simp only [hplain]
  refine wpAny_bind (L.here ?_)
  have tail : ∀ {t : Sem Value}, wpAny M A t Q E s₁ → wpAny M A (t >>= fun r => holding [r] point >>= fun _ => pure r) Q E s₁ :=
    fun ht => wpAny_bind (wpAny_mono ht (fun r s₂ hr => wpAny_bind (wpAny_holding (wpAny_point (wpAny_pure hr)))) fun _ _ y => y)
  exact tail (wpAny_operateT h2)
theorem callWithO {e : Expr} {rest : List Expr} (h : wpAny M A (spliced (backTo pos (starEach (e :: rest) env))) (fun vs s₁ => (∃ x ox od, u = .ref x ∧ ox.data = .plain ∧ InstAt s₁.heap x ox C od) ∧ wpAny M A (call u (first ++ vs)) Q E s₁) E s)
    (he : starEach (e :: rest) env = (false, eval e env) :: starEach rest env) (hplain : (backTo pos (starEach rest env)).any (·.1) = false) :
    wpAny M A (callWith pos u first (backTo pos (starEach (e :: rest) env)) []) Q E s := by
  rw [he] at h ⊢
  exact callWithO_of (by show ((false || (backTo pos (starEach rest env)).any (·.1)) || false) = false; rw [hplain]; rfl) (evalArgs_plain h)
end
end PySem.W
namespace Mi
open PySem PySem.Spec PyProof.Rows L2
variable [Glb]
/-- an own operator whose second is of a plain type -/
structure BinC (K : PySem.W.Frag) (C : Addr) (nm : String) (g : Addr) : Prop where
  first : PySem.W.selfFirst K C = true
  at_ : PySem.W.findIn K (.ref C) (PySem.dunder nm) = some (some (.ref g))
  fn : PySem.W.isFn K (.ref g) = true
  refl : PySem.W.findIn K (.ref C) (dunderR nm) = some none
  ty : ∀ T ∈ plainTys, (∃ fo, PySem.W.findIn K (.type T) (PySem.dunder nm) = some fo) ∧ (∃ ro, PySem.W.findIn K (.type T) (dunderR nm) = some ro) ∧ PySem.W.subIn K (.type T) (.ref C) = some false
section
variable {X : Cx} {CX : CXT} {k : Nat} {f C : Addr} {fd : FuncData} {ps : List Str} {sp : Sp} {E : L2.St → XK} {pins : List (Addr × Obj)} {σ : L2.St} {H : Hp} {s : Shared} {Q : VK} {a b o e : Expr} {es : List Expr} {pos apos p : Pos} {ta tb : TE} {t : TA} {ds : List Value} {dvs : List V}
/-- the callee's code, defaults filled up -/
theorem code_at {A : Around} {us : List Value} {vs : List V} {E0 : XK} (F : FnOk X.prog X.w X.K X.mg X.base CX k f fd ps sp) (hr : Room k A) (e0 : Env0 X.prog X.w X.K X.mg X.base A X.stack s H) (hb : Binds X.K fd ps ds) (rd : Vals dvs ds)
    (hx : PassesAt CX X σ E0) (I : Inv X pins σ H s) (r : Vals vs us) (h : sp (vs ++ dvs) H Q E0) : codeAny (model X.prog X.w) A (.call (.ref f) ⟨us, []⟩) (fun r s' => match r with | .ok (.ret v) => EP X pins σ Q v s' | .ok _ => False | .error e => X.xe e s') s := by
  have rr : Vals (vs ++ dvs) (us ++ ds) := r.append rd
  have hl : (us ++ ds).length = ps.length := by rw [← rr.length]; exact F.len _ _ _ _ h
  have hB := hb s us I.kIn hl
  refine codeAny_mono (F.run A X.stack s H ⟨us, []⟩ (us ++ ds) (vs ++ dvs) Q E0 hr e0 hB rr h) fun z s' q => ?_
  cases z with
  | error er => exact hx pins H s er s' I q
  | ok fl =>
    cases fl with
    | ret u => exact I.after q
    | next => exact False.elim q
    | brk => exact False.elim q
    | cont => exact False.elim q
/-- o op e, o an instance, e plain -/
theorem pe_binS {op : Operator} (B : BinC X.K C op.info.2 f) (F : FnOk X.prog X.w X.K X.mg X.base CX k f fd ps sp) (hr : Room k X.A) (hb : Binds X.K fd ps []) (hx : ∀ σ, PassesAt CX X σ (E σ)) (ha : PE X a ta) (hi : PE X b tb) :
    PE X (.BinOp a op b pos) (fun σ H Q => ta σ H fun x H1 => tb σ H1 fun y H2 => ∃ c dx fs n, x = .ref c ∧ H2 c = some (.ins C dx fs) ∧ n ∈ plainTys ∧ TyX X.K H2 y (.type n) ∧ sp [x, y] H2 Q (E σ)) := by
  refine ⟨fun pins s σ H Q I h => wpAny_BinOp (binT ha hi I h fun v u s2 x y H2 I2 rx ry ⟨c, dx, fs, n, ex, ea, hn, ty, q⟩ => ?_)⟩
  subst ex
  cases (show v = Value.ref c from rx)
  obtain ⟨mA, J, _⟩ := ins_get I2.hok ea
  obtain ⟨od, J, _⟩ := J.look
  obtain ⟨m, hF⟩ := I2.fr
  obtain ⟨P, kit, hP, _⟩ := kit_of I2 ry ty
  obtain ⟨⟨fo, h1⟩, ⟨ro, h2⟩, h3⟩ := B.ty n hn
  exact PySem.W.binT_L hF I2.ok.mod.kin J (kit.ty _ _ I2.kIn hP) B.first B.at_ B.fn B.refl (.inl rfl) h1 h2 h3 (back_of (Z := fun _ _ => True) (run_at F hr I2.env0 hb (hx σ) I2 (.cons rx (.cons ry .nil)) q))
/-- x(e), x an instance -/
theorem pe_callO {x : Str} (hs : PySem.W.findIn X.K (.ref C) "__call__" = some (some (.ref f))) (hf : PySem.W.isFn X.K (.ref f) = true) (hfn : PySem.W.fnIn X.K f = true) (F : FnOk X.prog X.w X.K X.mg X.base CX k f fd ps sp) (hr : Room (k + 1) X.A) (hb : Binds X.K fd ps []) (hx : ∀ σ, PassesAt CX X σ (E σ))
    (ha : PE X (.Name x p) ta) (hi : PE X b tb) (hp : plainE b = true) :
    PE X (.Call (.Name x p) [b] [] pos) (fun σ H Q => ta σ H fun v H1 => tb σ H1 fun y H2 => ∃ c dx fs, v = .ref c ∧ H2 c = some (.ins C dx fs) ∧ sp [v, y] H2 Q (E σ)) := by
  refine ⟨fun pins s σ H Q I h => wpAny_Call_Name_kw (thn (ha.run pins s σ H _ I h) fun u s1 ⟨v, H1, I1, r1, q⟩ => ?_)⟩
  have hA : PA X [b] (tCons tb tNil) := pa_cons hi pa_nil (starEach_cons hp)
  refine PySem.W.callWithO (C := C) (first := []) (thn (hA.run pos pins s1 σ H1 (fun ws H2 => match ws with
    | [y] => ∃ c dx fs, v = .ref c ∧ H2 c = some (.ins C dx fs) ∧ sp [v, y] H2 Q (E σ)
    | _ => False) I1 q) fun us s2 ⟨ws, H2, I2, r2, q2⟩ => ?_) (starEach_cons hp) rfl
  match ws, q2 with
  | [y], ⟨c, dx, fs, ev, ea2, q2⟩ =>
    subst ev
    cases (show u = Value.ref c from r1)
    obtain ⟨mA2, J2, _⟩ := ins_get I2.hok ea2
    obtain ⟨od2, J2, _⟩ := J2.look
    refine ⟨⟨c, _, _, rfl, rfl, J2⟩, ?_⟩
    exact wpAny_call (PySem.W.kco_code I2.kIn J2 rfl hs hf hfn (code_at (ds := []) (dvs := []) F (hr.mono (Nat.le_succ _)) I2.env0 hb .nil (hx σ) I2 (.cons r1 r2) q2))
/-- C.m(e, ..), m a class method -/
theorem pe_cmethS {m : Str} {pp g : Addr} {mc : Value} (r : ClX.CRead X.K C mc) (c : ClX.CMet X.K C mc m pp g) (F : FnOk X.prog X.w X.K X.mg X.base CX k g fd ps sp) (hr : Room k X.A) (hb : Binds X.K fd ps []) (hx : ∀ σ, PassesAt CX X σ (E σ)) (ho : PE X o ta) (ha : PA X (e :: es) t)
    (hn : noSup o = true) (hli : (apos.endLine == pos.line) = true) (hp : plainE e = true) (hps : ∀ x ∈ es, plainE x = true) (hl : (e :: es).length < 30) :
    PE X (.Call (.Attribute o m apos) (e :: es) [] pos) (fun σ H Q => ta σ H fun x H1 => x = .ref C ∧ t σ H1 fun vs H2 => sp (.ref C :: vs) H2 Q (E σ)) := by
  have hst := nostars (env := X.env) (pos := pos) hps
  refine ⟨fun pins s σ H Q I h => PySem.W.methodCall_KW (thn (ho.run pins s σ H _ I h) fun u s1 ⟨x, H1, I1, rx, ex, q⟩ => ?_) (meth_eval hn hli (form_of (by rw [starEach_cons hp]; exact hst) hl))⟩
  subst ex
  cases (show u = Value.ref C from rx)
  refine ClX.getmethcm_ok I1 r c fun s2 I2 => ?_
  refine ClX.callwith_cm I2 (ClX.base_none I1 (Nat.le_refl _)) c.fi (thn (ha.run pos _ s2 σ H1 _ I2 q) fun us s3 ⟨vs, H2, I3, rv, q2⟩ => ⟨⟨ClX.pin_at I3, I3.kIn⟩, ?_⟩) (starEach_cons hp) hst
  have z : wpAny (model X.prog X.w) X.A (call (.ref s1.heap.objs.size) us) (EP X ((s1.heap.objs.size, PySem.W.methodObj (.ref g) (.ref C)) :: pins) σ Q) X.xe s3 :=
    wpAny_call (PySem.W.method_call (ClX.pin_at I3) (code_at (us := .ref C :: us) (vs := .ref C :: vs) (ds := []) (dvs := []) F hr I3.env0 hb .nil (hx σ) I3 (.cons rfl rv) (by rw [List.append_nil]; exact q2)))
  exact thn z fun _ _ y => ClX.unpinE y
/-- the call of a class, defaults filled up -/
theorem make_core (M : Mk X.K C f) (F : FnOk X.prog X.w X.K X.mg X.base CX k f fd ps sp) (hr : Room (k + 1) X.A) (hb : Binds X.K fd ps ds) (rd : Vals dvs ds) (hx : ∀ σ, PassesAt CX X σ (E σ))
    (ha : PA X (e :: es) t) (hp : plainE e = true) (hps : ∀ x ∈ es, plainE x = true) (I : Inv X pins σ H s) (h : t σ H fun vs H1 => ∀ y dy, H1 y = none → H1 dy = none → dy ≠ y → sp (.ref y :: (vs ++ dvs)) (upd (upd H1 dy (.own y)) y (.ins C dy [])) (fun v H2 => v = .non ∧ Q (.ref y) H2) (E σ)) :
    wpAny (model X.prog X.w) X.A (callWith pos (.ref C) [] (backTo pos (starEach (e :: es) X.env)) []) (EP X pins σ Q) X.xe s := by
  refine PySem.W.callWith_K (h₀ := X.base) I.ok.mod.kin M.kp (thn (ha.run pos pins s σ H _ I h) fun us s1 ⟨vs, H1, I1, r, q⟩ => ⟨I1.kIn, ?_⟩) (starEach_cons hp) (nostars hps)
  have J := Inv.made (C := C) I1
  have hq := q (s1.heap.objs.size + 1) s1.heap.objs.size (I1.hok.fresh (Nat.le_succ _)) (I1.hok.fresh (Nat.le_refl _)) (Nat.ne_of_lt (Nat.lt_succ_self _))
  have r0 : Vals (V.ref (s1.heap.objs.size + 1) :: vs) (Value.ref (s1.heap.objs.size + 1) :: us) := .cons rfl r
  have rr : Vals (V.ref (s1.heap.objs.size + 1) :: (vs ++ dvs)) (Value.ref (s1.heap.objs.size + 1) :: (us ++ ds)) := .cons rfl (r.append rd)
  have hl : ((Value.ref (s1.heap.objs.size + 1) :: us) ++ ds).length = ps.length := by
    have e1 := rr.length
    have e2 := F.len _ _ _ _ hq
    rw [← e2, e1]
    rfl
  have hB := hb _ (Value.ref (s1.heap.objs.size + 1) :: us) J.kIn hl
  refine wpAny_call (make_map (f := f) I1.kIn M.makes M.init (beq_iff_eq.mp M.fn) (codeAny_mono (F.run _ X.stack _ _ ⟨Value.ref (s1.heap.objs.size + 1) :: us, []⟩ _ _ _ (E σ) (hr.make C us []) (J.env0.make C us []) hB rr hq) fun z s' hz => ?_))
  match z, hz with
  | .error er, hz => exact hx σ pins _ _ er s' J hz
  | .ok (.ret u), hz =>
    obtain ⟨v, H', I3, rv, ev, q3⟩ := J.after hz
    subst ev
    exact ⟨rv, ⟨V.ref (s1.heap.objs.size + 1), H', I3, rfl, q3⟩⟩
/-- C(e, ..), C a name of the module -/
theorem pe_makeD {x : Str} (M : Mk X.K C f) (F : FnOk X.prog X.w X.K X.mg X.base CX k f fd ps sp) (hr : Room (k + 1) X.A) (hg : Gl X x) (hm : X.mg x = some (.ref C)) (hb : Binds X.K fd ps ds) (rd : Vals dvs ds) (hx : ∀ σ, PassesAt CX X σ (E σ))
    (ha : PA X (e :: es) t) (hdb : (x == ("__debug__" : Str)) = false) (hp : plainE e = true) (hps : ∀ x ∈ es, plainE x = true) :
    PE X (.Call (.Name x p) (e :: es) [] pos) (fun σ H Q => t σ H fun vs H1 => ∀ y dy, H1 y = none → H1 dy = none → dy ≠ y → sp (.ref y :: (vs ++ dvs)) (upd (upd H1 dy (.own y)) y (.ins C dy [])) (fun v H2 => v = .non ∧ Q (.ref y) H2) (E σ)) :=
  ⟨fun pins s σ H Q I h => wpAny_Call_Name_kw (ld_glob I hg hm (make_core M F hr hb rd hx ha hp hps I h) hdb)⟩
/-- cls(e, ..), cls a local name -/
theorem pe_makeV {x : Str} (M : Mk X.K C f) (F : FnOk X.prog X.w X.K X.mg X.base CX k f fd ps sp) (hr : Room (k + 1) X.A) (hb : Binds X.K fd ps []) (hx : ∀ σ, PassesAt CX X σ (E σ)) (ho : PE X (.Name x p) ta)
    (ha : PA X (e :: es) t) (hp : plainE e = true) (hps : ∀ x ∈ es, plainE x = true) :
    PE X (.Call (.Name x p) (e :: es) [] pos) (fun σ H Q => ta σ H fun c H0 => c = .ref C ∧ t σ H0 fun vs H1 => ∀ y dy, H1 y = none → H1 dy = none → dy ≠ y → sp (.ref y :: (vs ++ [])) (upd (upd H1 dy (.own y)) y (.ins C dy [])) (fun v H2 => v = .non ∧ Q (.ref y) H2) (E σ)) :=
  ⟨fun pins s σ H Q I h => wpAny_Call_Name_kw (thn (ho.run pins s σ H _ I h) fun u s1 ⟨c, H0, I1, r1, ec, q⟩ => by
    subst ec
    cases (show u = Value.ref C from r1)
    exact make_core (ds := []) (dvs := []) M F hr hb .nil hx ha hp hps I1 q)⟩
end
end Mi
/-! Mini: .. as terms. -/
namespace Mi
open PySem PySem.Spec PyProof.Rows L2
variable [Glb]
/-- a def of a class that may be called, the last parameters by their defaults -/
def FnAd (X : Cx) (Γ : Gam) (fa : Addr) (n : Nat) (dfl : List D) (call : List D → MH → R D) : Prop :=
  ∃ (k : Nat) (fd : FuncData) (ps : List Str) (ds : List Value) (vs : List V), Binds X.K fd ps ds ∧ Vals vs ds ∧ (∀ H L loc, Reps Γ.K H L loc vs dfl) ∧ Room (k + 1) X.A ∧ FnOk X.prog X.w X.K X.mg X.base (L2N.CX X.prog X.w) k fa fd ps (spF Γ (n + dfl.length) call)
theorem ty_pln {K : PySem.W.Frag} {H : Hp} {m : MH} {loc : Loc} {v : V} {d : D} (r : RepM K H m loc v d) (h : plnD d = true) : ∃ n ∈ plainTys, TyX K H v (.type n) := by
  refine ty_plain (m := m) (kk := 0) r ?_
  cases d <;> first | rfl | cases h
section
variable {Γ : Gam} {X : Cx} {G : Nat → Option D} {Cl : Call} {a b o e : Expr} {es : List Expr} {pos apos p : Pos} {kk f : Nat} {C fa : Addr} {ms : List E} {x : Str}
theorem se_bino {op : Operator} {bo : BOp} {y z : E} (hK : X.K = Γ.K) (hC : (Glb.k Γ.K)[kk]? = some C) (B : BinC X.K C op.info.2 fa) (F : FnA X Γ fa 2 (Cl f)) (ha : SE Γ X a (eval G Cl y)) (hb : SE Γ X b (eval G Cl z)) :
    SE Γ X (.BinOp a op b pos) (eval G Cl (.ow2 (.bin bo) kk f y z)) := fun W tk => by
  obtain ⟨k, fd, ps, h1, h2, h3⟩ := F
  refine wkE (pe_binS B h3 (h2.mono (Nat.le_succ _)) h1 (E := WE W) (fun σ => L2N.passAt tk σ) (ha W tk) (hb W tk)) fun σ H Q ⟨env, m, loc, A, p⟩ => ?_
  refine sub A (show Po Γ (fun c d H => W c d σ H) H m loc (rlD Γ) ((eval G Cl y env m).bind fun d m => (eval G Cl z env m).bind fun e m => if ownOk (.bin bo) kk m [d, e] then ownEnd (.bin bo) (Cl f [d, e] m) else .stuck) Q from p) fun v1 H1 d1 m1 loc1 _ A1 k1 r1 p1 => sub A1 p1 fun v2 H2 d2 m2 loc2 _ A2 k2 r2 p2 => ?_
  have r1 := r1.mono k2
  obtain ⟨e, p3⟩ := if_run p2
  obtain ⟨g1, g2⟩ := Bool.and_eq_true_iff.mp (show (insK m2 kk d1 && plnD d2) = true from e)
  obtain ⟨i, fs, rfl, e1⟩ := insK_iff g1
  obtain ⟨a', dx, vs, rfl, _, q2, q3⟩ := ins_cell A2.1 r1 hC e1
  obtain ⟨n, n1, n2⟩ := ty_pln r2 g2
  exact ⟨a', dx, vs, n, rfl, q2, n1, hK ▸ n2, rfl, [.ref i, d2], m2, loc2, A2.1, .cons r1 (.cons r2 .nil), p3⟩
theorem se_callo {y z : E} (hC : (Glb.k Γ.K)[kk]? = some C) (hs : PySem.W.findIn X.K (.ref C) "__call__" = some (some (.ref fa))) (hf : PySem.W.isFn X.K (.ref fa) = true) (hfn : PySem.W.fnIn X.K fa = true) (F : FnA X Γ fa 2 (Cl f)) (hp : plainE b = true)
    (ha : SE Γ X (.Name x p) (eval G Cl y)) (hb : SE Γ X b (eval G Cl z)) : SE Γ X (.Call (.Name x p) [b] [] pos) (eval G Cl (.ow2 .call kk f y z)) := fun W tk => by
  obtain ⟨k, fd, ps, h1, h2, h3⟩ := F
  refine wkE (pe_callO hs hf hfn h3 h2 h1 (E := WE W) (fun σ => L2N.passAt tk σ) (ha W tk) (hb W tk) hp) fun σ H Q ⟨env, m, loc, A, p⟩ => ?_
  refine sub A (show Po Γ (fun c d H => W c d σ H) H m loc (rlD Γ) ((eval G Cl y env m).bind fun d m => (eval G Cl z env m).bind fun e m => if ownOk .call kk m [d, e] then ownEnd .call (Cl f [d, e] m) else .stuck) Q from p) fun v1 H1 d1 m1 loc1 _ A1 k1 r1 p1 => sub A1 p1 fun v2 H2 d2 m2 loc2 _ A2 k2 r2 p2 => ?_
  have r1 := r1.mono k2
  obtain ⟨e, p3⟩ := if_run p2
  obtain ⟨i, fs, rfl, e1⟩ := insK_iff (show insK m2 kk d1 = true from e)
  obtain ⟨a', dx, vs, rfl, _, q2, q3⟩ := ins_cell A2.1 r1 hC e1
  exact ⟨a', dx, vs, rfl, q2, rfl, [.ref i, d2], m2, loc2, A2.1, .cons r1 (.cons r2 .nil), p3⟩
theorem se_cmt {q : Str} {mc : Value} {pp : Addr} (hC : (Glb.k Γ.K)[kk]? = some C) (r : ClX.CRead X.K C mc) (c : ClX.CMet X.K C mc x pp fa) (hg : Gl X q) (hm : X.mg q = some (.ref C)) (hdb : (q == ("__debug__" : Str)) = false) (F : FnA X Γ fa (ms.length + 1) (Cl f)) (hli : (apos.endLine == pos.line) = true) (hl : ms.length < 30)
    (hs : SEs Γ X G Cl (e :: es) ms) : SE Γ X (.Call (.Attribute (.Name q p) x apos) (e :: es) [] pos) (fun env m => (evals G Cl ms env m).bind fun ds m => Cl f (.cls kk :: ds) m) := fun W tk => by
  obtain ⟨k, fd, ps, h1, h2, h3⟩ := F
  refine wkE (pe_cmethS r c h3 (h2.mono (Nat.le_succ _)) h1 (E := WE W) (fun σ => L2N.passAt tk σ) (pe_glob (v := .ref C) hg hm rfl hdb) (hs.sa W tk) rfl hli hs.head hs.tail (by rw [hs.length]; exact hl)) fun σ H Q ⟨env, m, loc, A, p⟩ => ?_
  refine ⟨rfl, sub A p fun us H2 ds m2 loc2 e3 A2 k2 r2 p3 => ?_⟩
  exact ⟨by rw [List.length_cons, r2.length, evals_len e3], .cls kk :: ds, m2, loc2, A2.1, .cons (.cls hC) r2, p3⟩
theorem se_mkd {dfl : List Df} (hC : (Glb.k Γ.K)[kk]? = some C) (M : Mk X.K C fa) (hg : Gl X x) (hm : X.mg x = some (.ref C)) (hdb : (x == ("__debug__" : Str)) = false) (F : FnAd X Γ fa (ms.length + 1) (dfl.map Df.d) (Cl f)) (hs : SEs Γ X G Cl (e :: es) ms) :
    SE Γ X (.Call (.Name x p) (e :: es) [] pos) (eval G Cl (.mkd x kk f ms dfl)) := fun W tk => by
  obtain ⟨k, fd, ps, ds0, vs0, h1, rd, rp, h2, h3⟩ := F
  refine wkE (pe_makeD M h3 h2 hg hm h1 rd (E := WE W) (fun σ => L2N.passAt tk σ) (hs.sa W tk) hdb hs.head hs.tail) fun σ H Q ⟨env, m, loc, A, p⟩ => ?_
  refine sub A (show Po Γ (fun c d H => W c d σ H) H m loc (rlD Γ) ((evals G Cl ms env m).bind fun ds m => mkEnd m.length (Cl f (.ref m.length :: (ds ++ dfl.map Df.d)) (m ++ [.ins kk []]))) Q from p) fun us H1 ds m1 loc1 e3 A1 k1 r1 p1 => ?_
  intro y dy hy hdy ne
  have s1 := A1.1.new (o := .own y) hdy
  have hy' : upd H1 dy (.own y) y = none := by rw [upd_ne (Ne.symm ne)]; exact hy
  have s2 := s1.push (o := .ins C dy []) (c := .ins kk []) hy' ⟨C, dy, [], by rw [show (loc1.push y).f.k = Glb.k Γ.K from s1.fi.k]; exact hC, upd_same, True.intro⟩
  have k2 := (kp_new hdy A1.1).trans (kp_push (o := .ins C dy []) (c := .ins kk []) s1 hy')
  have ra : Reps Γ.K (upd (upd H1 dy (.own y)) y (.ins C dy [])) (Live (m1 ++ [.ins kk []]) (loc1.push y)) (loc1.push y) (us ++ vs0) (ds ++ dfl.map Df.d) := (r1.mono k2).append (rp _ _ _)
  have hl : us.length = ms.length := by rw [r1.length, evals_len e3]
  refine ⟨by rw [List.length_cons, List.length_append, hl, (rp H1 (fun _ => True) loc1).length]; omega, .ref m1.length :: (ds ++ dfl.map Df.d), m1 ++ [.ins kk []], loc1.push y, s2, .cons (.ref (push_at s1)) ra, ?_⟩
  exact po_mk (push_at s1) k2 p1
theorem se_mkv {i : Nat} {y : Str} (hC : (Glb.k Γ.K)[kk]? = some C) (M : Mk X.K C fa) (hN : X.N[i]? = some y) (hv : Vis X.env.scope y) (hdb : (y == ("__debug__" : Str)) = false) (hcd : (y == ("__classdict__" : Str)) = false) (F : FnA X Γ fa (ms.length + 1) (Cl f)) (hs : SEs Γ X G Cl (e :: es) ms) :
    SE Γ X (.Call (.Name y p) (e :: es) [] pos) (eval G Cl (.mkv i x kk f ms)) := fun W tk => by
  obtain ⟨k, fd, ps, h1, h2, h3⟩ := F
  refine wkE (pe_makeV M h3 h2 h1 (E := WE W) (fun σ => L2N.passAt tk σ) (pe_var hN hv hdb hcd) (hs.sa W tk) hs.head hs.tail) fun σ H Q ⟨env, m, loc, A, p⟩ => ?_
  have p : Po Γ (fun c d H => W c d σ H) H m loc (rlD Γ) (match env[i]? with
    | some (some (.cls j)) => if j = kk then (evals G Cl ms env m).bind fun ds m => mkEnd m.length (Cl f (.ref m.length :: ds) (m ++ [.ins kk []])) else .stuck
    | _ => .stuck) Q := p
  match q : env[i]?, p with
  | some (some (.cls j)), p =>
    have p : Po Γ (fun c d H => W c d σ H) H m loc (rlD Γ) (if j = kk then (evals G Cl ms env m).bind fun ds m => mkEnd m.length (Cl f (.ref m.length :: ds) (m ++ [.ins kk []])) else .stuck) Q := p
    by_cases hj : j = kk
    · subst hj
      rw [if_pos rfl] at p
      obtain ⟨v, q1, q2⟩ := A.2.at_ i _ q
      cases q2 with
      | cls hc =>
        rw [hC] at hc
        cases hc
        refine ⟨_, q1, rfl, ?_⟩
        refine sub A p fun us H1 ds m1 loc1 e3 A1 k1 r1 p1 => ?_
        intro y dy hy hdy ne
        have s1 := A1.1.new (o := .own y) hdy
        have hy' : upd H1 dy (.own y) y = none := by rw [upd_ne (Ne.symm ne)]; exact hy
        have s2 := s1.push (o := .ins C dy []) (c := .ins j []) hy' ⟨C, dy, [], by rw [show (loc1.push y).f.k = Glb.k Γ.K from s1.fi.k]; exact hC, upd_same, True.intro⟩
        have k2 := (kp_new hdy A1.1).trans (kp_push (o := .ins C dy []) (c := .ins j []) s1 hy')
        refine ⟨by rw [List.length_cons, List.append_nil, r1.length, evals_len e3], .ref m1.length :: ds, m1 ++ [.ins j []], loc1.push y, s2, .cons (.ref (push_at s1)) (by rw [List.append_nil]; exact r1.mono k2), ?_⟩
        exact po_mk (push_at s1) k2 p1
    · rw [if_neg hj] at p
      exact (show False from p).elim
  | some (some .non), p => exact (show False from p).elim
  | some (some (.bl _)), p => exact (show False from p).elim
  | some (some (.int _)), p => exact (show False from p).elim
  | some (some (.str _)), p => exact (show False from p).elim
  | some (some (.tup _)), p => exact (show False from p).elim
  | some (some (.lst _)), p => exact (show False from p).elim
  | some (some (.dic _)), p => exact (show False from p).elim
  | some (some (.scr _)), p => exact (show False from p).elim
  | some (some (.ref _)), p => exact (show False from p).elim
  | some none, p => exact (show False from p).elim
  | none, p => exact (show False from p).elim
/-- a list against [] -/
theorem se_eqn {lp : Pos} {y : E} (hK : X.K = Γ.K) (hu : X.A.units + 64 < cLine) (ha : SE Γ X a (eval G Cl y)) (hb : SE Γ X (.List [] lp) (eval G Cl (.lst []))) : SE Γ X (.Compare a [.Eq] [.List [] lp] pos) (eval G Cl (.eqn y)) := fun W tk => by
  refine wkE (pe_cmpR (op_eqE hu) (ha W tk) (hb W tk) (nomarks rfl)) fun σ H Q ⟨env, m, loc, A, p⟩ => ?_
  refine sub A (show Po Γ (fun c d H => W c d σ H) H m loc (rlD Γ) ((eval G Cl y env m).bind fun x m => (eval G Cl (.lst []) env m).bind fun z m => ofO ((asL m x).map fun xs => .bl xs.isEmpty) m) Q from p) fun v1 H1 d1 m1 loc1 _ A1 k1 r1 p1 => sub A1 p1 fun v2 H2 d2 m2 loc2 e2 A2 k2 r2 p2 => ?_
  have e2 : R.ok (.lst []) m1 = R.ok d2 m2 := e2
  cases e2
  have r1 := r1.mono k2
  obtain ⟨z, e3, p3⟩ := p2.ofO
  obtain ⟨xs, e4, rfl⟩ := Option.map_eq_some_iff.mp e3
  obtain ⟨b', vs2, rfl, hb2, hv2⟩ : ∃ b' vs2, v2 = .ref b' ∧ SqL Γ.K H2 b' vs2 ∧ vs2 = [] := by
    cases r2 with
    | lst h1 n1 z1 q1 =>
      cases q1
      exact ⟨_, _, rfl, .inl (.inl h1), rfl⟩
  subst hv2
  have fin : ∀ {a' : Addr} {vs : List V}, SqL Γ.K H2 a' vs → vs.isEmpty = xs.isEmpty → rEqE X.K id (.ref a') (.ref b') H2 Q := fun {a' vs} h e => by
    refine ⟨a', b', vs, rfl, rfl, .inr ⟨hK ▸ h, hK ▸ hb2⟩, ?_⟩
    rw [id, e]
    exact p3.ret A2.1 (.bl _)
  have len : ∀ {L : Addr → Prop} {vs : List V} {xs : List D}, Reps Γ.K H2 L loc2 vs xs → vs.isEmpty = xs.isEmpty := fun r => by cases r <;> rfl
  cases d1 with
  | lst ys =>
    cases e4
    cases r1 with
    | lst h1 n1 z1 q1 => exact fin (.inl (.inl h1)) (len q1)
  | ref n =>
    have e4 : (match m1[n]? with
      | some (.lst xs) => some xs
      | _ => none) = some xs := e4
    cases r1 with
    | ref hl =>
      split at e4
      · rename_i ys hm
        cases e4
        obtain ⟨vs, h1, h2⟩ := A2.1.cell n _ _ hm hl
        exact fin (.inl (.inl h1)) (len h2.2)
      · cases e4
  | _ => cases e4
theorem ok_eqn (hK : X.K = Γ.K) (hu : X.A.units + 64 < cLine) : OpOk X Γ (compareOp .Eq) (fun m x y => match y with
    | .lst [] => (asL m x).map fun xs => .bl xs.isEmpty
    | _ => none) := by
  refine ⟨_, op_eqE hu, fun W H m loc v1 v2 d1 d2 d Q s r1 r2 e p => ?_⟩
  match d2, r2, e with
  | .lst [], r2, e =>
    obtain ⟨xs, e4, rfl⟩ := Option.map_eq_some_iff.mp e
    obtain ⟨b', vs2, rfl, hb2, hv2⟩ : ∃ b' vs2, v2 = .ref b' ∧ SqL Γ.K H b' vs2 ∧ vs2 = [] := by
      cases r2 with
      | lst h1 n1 z1 q1 =>
        cases q1
        exact ⟨_, _, rfl, .inl (.inl h1), rfl⟩
    subst hv2
    have fin : ∀ {a' : Addr} {vs : List V}, SqL Γ.K H a' vs → vs.isEmpty = xs.isEmpty → rEqE X.K id (.ref a') (.ref b') H Q := fun {a' vs} h e => by
      refine ⟨a', b', vs, rfl, rfl, .inr ⟨hK ▸ h, hK ▸ hb2⟩, ?_⟩
      rw [id, e]
      exact p.ret s (.bl _)
    have len : ∀ {L : Addr → Prop} {vs : List V} {xs : List D}, Reps Γ.K H L loc vs xs → vs.isEmpty = xs.isEmpty := fun r => by cases r <;> rfl
    cases d1 with
    | lst ys =>
      cases e4
      cases r1 with
      | lst h1 n1 z1 q1 => exact fin (.inl (.inl h1)) (len q1)
    | ref n =>
      have e4 : (match m[n]? with
        | some (.lst xs) => some xs
        | _ => none) = some xs := e4
      cases r1 with
      | ref hl =>
        split at e4
        · rename_i ys hm
          cases e4
          obtain ⟨vs, h1, h2⟩ := s.cell n _ _ hm hl
          exact fin (.inl (.inl h1)) (len h2.2)
        · cases e4
    | _ => cases e4
theorem st_eqn {lp : Pos} {y : E} (hK : X.K = Γ.K) (hu : X.A.units + 64 < cLine) (ha : SE Γ X a (eval G Cl y)) (hb : SE Γ X (.List [] lp) (eval G Cl (.lst []))) : ST Γ X (.Compare a [.Eq] [.List [] lp] pos) (fun env m => test (eval G Cl (.eqn y) env m)) :=
  st_cmp (ok_eqn hK hu) (fun m x y d e => by
    split at e
    · obtain ⟨k, _, e2⟩ := Option.map_eq_some_iff.mp e
      exact ⟨_, e2.symm⟩
    · cases e) ha hb (nomarks rfl)
end
end Mi
/-! Mini: is this expression of the text that term? -/
namespace Mi
open PySem PySem.Spec PyProof.Rows L2
variable [Glb]
/-- what is said of a class -/
inductive Ob where
  | cls (k : Nat) | noat (k : Nat) (x : Str)
  | meth (x : Str) (k f n : Nat) | prop (x : Str) (k f : Nat) | make (x : Str) (k f n : Nat)
  | get (k f : Nat) | eq (k f : Nat) | len (k f : Nat) | iop (o : BOp) (k f : Nat)
  | isc (x : Str) (k : Nat) | gix (x : Str) (ys : List Str)
  | bin (o : BOp) (k f : Nat) | call (k f : Nat) | cmet (q x : Str) (k f n : Nat) | maked (x : Str) (k f n : Nat) (dfl : List Df)
deriving DecidableEq
def opOf : BOp → Operator
  | .add => .Add
  | .sub => .Sub
  | .mul => .Mult
  | .fdiv => .FloorDiv
  | .mod => .Mod
  | .pow => .Pow
/-- a def by its class -/
def ClsM (X : Cx) (Γ : Gam) (k : Nat) (p : Addr → Prop) : Prop := ∃ a, (Glb.k Γ.K)[k]? = some a ∧ p a
def ObOk (X : Cx) (Γ : Gam) (C : Call) : Ob → Prop
  | .cls k => ClsM X Γ k fun a => Cls X.K a
  | .noat k x => ClsM X Γ k fun a => NoAttr X.K a x
  | .meth x k f n => ClsM X Γ k fun a => ∃ g, Meth X.K a x g ∧ FnA X Γ g n (C f)
  | .prop x k f => ClsM X Γ k fun a => ∃ p g, PropOf X.K a x p g ∧ FnA X Γ g 1 (C f)
  | .make x k f n => ClsM X Γ k fun a => ∃ g, Mk X.K a g ∧ X.mg x = some (.ref a) ∧ FnA X Γ g n (C f)
  | .get k f => ClsM X Γ k fun a => ∃ g, PySem.W.findIn X.K (.ref a) "__getitem__" = some (some (.ref g)) ∧ PySem.W.fnIn X.K g = true ∧ PySem.W.isFn X.K (.ref g) = true ∧ FnA X Γ g 2 (C f)
  | .eq k f => ClsM X Γ k fun a => ∃ g, PySem.W.findIn X.K (.ref a) "__eq__" = some (some (.ref g)) ∧ PySem.W.isFn X.K (.ref g) = true ∧ FnA X Γ g 2 (C f)
  | .len k f => ClsM X Γ k fun a => ∃ g, PySem.W.findIn X.K (.ref a) "__len__" = some (some (.ref g)) ∧ PySem.W.isFn X.K (.ref g) = true ∧ FnA X Γ g 1 (C f)
  | .iop o k f => ClsM X Γ k fun a => PySem.W.selfFirst X.K a = true ∧ ∃ g, PySem.W.findIn X.K (.ref a) (dunderI (opOf o).info.2) = some (some (.ref g)) ∧ PySem.W.isFn X.K (.ref g) = true ∧ FnA X Γ g 2 (C f)
  | .isc x k => ClsM X Γ k fun a => IscC X.K a ∧ X.mg x = some (.ref a)
  | .gix x ys => GixC X x ys
  | .bin o k f => ClsM X Γ k fun a => ∃ g, BinC X.K a (opOf o).info.2 g ∧ FnA X Γ g 2 (C f)
  | .call k f => ClsM X Γ k fun a => ∃ g, PySem.W.findIn X.K (.ref a) "__call__" = some (some (.ref g)) ∧ PySem.W.isFn X.K (.ref g) = true ∧ PySem.W.fnIn X.K g = true ∧ FnA X Γ g 2 (C f)
  | .cmet q x k f n => ClsM X Γ k fun a => ∃ mc pp g, ClX.CRead X.K a mc ∧ ClX.CMet X.K a mc x pp g ∧ X.mg q = some (.ref a) ∧ FnA X Γ g n (C f)
  | .maked x k f n dfl => ClsM X Γ k fun a => ∃ g, Mk X.K a g ∧ X.mg x = some (.ref a) ∧ FnAd X Γ g n (dfl.map Df.d) (C f)
structure Info where
  fns : List (Str × Nat × Nat)
  glb : List (Str × Nat)
  blt : List Str
  exc : List Str
  trs : List (Str × Str × Str × Bool)
  /-- the scopes of defs that make lambdas -/
  mks : List (Scope × Str) := []
  lams : List Lam := []
  /-- is an exception of the class a ValueError? -/
  tvs : List (Str × Bool) := []
  obs : List Ob := []
  /-- does a clause take an exception of the class? -/
  trk : List (Str × Str × Bool) := []
  /-- exceptions with a line -/
  ini : List Str := []
  file : Str := Str.empty
/-- a def that may be called, whatever the scope -/
def FnM (X : Cx) (Γ : Gam) (x : Str) (n : Nat) (call : List D → MH → R D) : Prop :=
  ∃ (k : Nat) (f : Addr) (fd : FuncData) (ps : List Str), X.mg x = some (.ref f) ∧ PySem.W.keepIn X.K (.ref f) = true ∧ Binds X.K fd ps [] ∧ Room k X.A ∧ FnOk X.prog X.w X.K X.mg X.base (L2N.CX X.prog X.w) k f fd ps (spF Γ n call)
/-- an exception whose own __init__ takes the line -/
def InitX (X : Cx) (Γ : Gam) (x : Str) : Prop := ∃ (Ca fI : Addr) (fd : FuncData) (k : Nat), OexC X.K Ca ∧ PySem.W.findIn X.K (.ref Ca) "__init__" = some (some (.ref fI)) ∧ PySem.W.typeIn X.K (.ref fI) = some (.type "function") ∧ X.mg x = some (.ref Ca) ∧ PySem.W.findIn X.K (.ref Ca) "line" = some none ∧
  Binds X.K fd ["self", "line"] [] ∧ Room (k + 1) X.A ∧ FnOk X.prog X.w X.K X.mg X.base (L2N.CX X.prog X.w) k fI fd ["self", "line"] (MX.initSp Ca "line") ∧ ExcC X.K Ca ∧ ∀ i cls d H, Γ.XR ⟨x, some (.int i)⟩ cls d H ↔ cls = .ref Ca ∧ ∃ dx, d = some dx ∧ H dx = some (.xd [("line", .int i)])
/-- where an expression stands -/
structure Cok (Γ : Gam) (X : Cx) (N : List Str) (sc : Scope) (fc : Str → Bool) (P : Info) (G : Nat → Option D) (C : Call) : Prop where
  n : X.N = N
  nd : X.N.Nodup
  sc : X.env.scope = sc
  k : X.K = Γ.K
  calm : X.calm = true
  u : X.A.units + 65 < cLine
  fc : ∀ x, fc x = true → X.fn x = true
  fn : ∀ x f n, P.fns.lookup x = some (f, n) → FnM X Γ x n (C f)
  gl : ∀ x j, P.glb.lookup x = some j → ∃ u v d, X.mg x = some u ∧ RelV v u ∧ G j = some d ∧ ∀ H L loc, Rep Γ.K H L loc v d
  bl : ∀ x ∈ P.blt, X.mg x = none
  ex : ∀ x ∈ P.exc, ∃ (Ca : Addr) (bmB : List Value) (B newId initId : String), ExcBaseFacts B newId initId bmB ∧ PySem.W.excIn X.K Ca bmB newId = true ∧ X.mg x = some (.ref Ca) ∧ PySem.W.keepIn X.K (.ref Ca) = true ∧ Raises X (.ref Ca) ∧ ∀ (z : Str) H, Γ.XR ⟨x, some (.str z)⟩ (.ref Ca) none H
  tr : ∀ q ∈ P.trs, ∃ (De Ce Cy : Addr), (∀ a cls d H, Γ.XR ⟨q.1, a⟩ cls d H → cls = .ref De ∧ DX d H) ∧ X.mg q.2.1 = some (.ref Ce) ∧ X.mg q.2.2.1 = some (.ref Cy) ∧ PySem.W.exmOne X.K (.ref De) (.ref Ce) = some true ∧ PySem.W.kitOne X.K (.ref De) (.ref Cy) = some q.2.2.2 ∧ ExcC X.K De
  tv : ∀ q ∈ P.tvs, ∃ De : Addr, (∀ a cls d H, Γ.XR ⟨q.1, a⟩ cls d H → cls = .ref De ∧ DX d H) ∧ PySem.W.kitOne X.K (.ref De) (.type "ValueError") = some q.2
  mkr : ∀ z, P.mks.lookup X.env.scope = some z → MakesAt X Γ ∧ X.env.qual = z
  lm : P.lams = Glb.t
  ls : LamsAt X Γ C
  ob : ∀ q ∈ P.obs, ObOk X Γ C q
  tk : ∀ q ∈ P.trk, ∃ (De Ce : Addr), (∀ a cls d H, Γ.XR ⟨q.1, a⟩ cls d H → cls = .ref De) ∧ X.mg q.2.1 = some (.ref Ce) ∧ PySem.W.exmOne X.K (.ref De) (.ref Ce) = some q.2.2
  ini : ∀ x ∈ P.ini, InitX X Γ x
def glbB (sc : Scope) (x : Str) : Bool := decide (sc.names.lookup x = some .globalImplicit)
def nmB (x : Str) : Bool := !(x == ("__debug__" : Str)) && !(x == ("__classdict__" : Str))
def visB (sc : Scope) (x : Str) : Bool := decide (sc.names.lookup x = some .local) || decide (sc.names.lookup x = some .cell) || decide (sc.names.lookup x = some .free)
def bltB (P : Info) (sc : Scope) (x want : Str) : Bool := decide (x = want) && glbB sc x && decide (x ∈ P.blt)
def cstB : D → Const → Bool
  | .non, .none => true
  | .bl a, .bool b => decide (a = b)
  | .int a, .int b => decide (a = b)
  | .str a, .str b => decide (a = b)
  | _, _ => false
def opB : BOp → Operator → Bool
  | .add, .Add => true
  | .sub, .Sub => true
  | .mul, .Mult => true
  | .fdiv, .FloorDiv => true
  | .mod, .Mod => true
  | .pow, .Pow => true
  | _, _ => false
def cmB : COp → CmpOp → Bool
  | .eq, .Eq => true
  | .ne, .NotEq => true
  | .lt, .Lt => true
  | .le, .LtE => true
  | .gt, .Gt => true
  | .ge, .GtE => true
  | .is_, .Is => true
  | .isnot, .IsNot => true
  | .in_, .In => true
  | .notin, .NotIn => true
  | _, _ => false
def boB : Bool → BoolOp → Bool
  | true, .And => true
  | false, .Or => true
  | _, _ => false
def bN : BI → Str
  | .len => "len"
  | .abs => "abs"
  | .int => "int"
  | .tuple => "tuple"
  | .list => "list"
  | .all => "all"
  | .any => "any"
  | .sum => "sum"
  | .min2 => "min"
  | .max2 => "max"
  | .sorted => "sorted"
def tN : Ty → Str
  | .int => "int"
  | .bool => "bool"
  | .str => "str"
  | .tuple => "tuple"
  | .list => "list"
def mN : MT → Str
  | .append => "append"
  | .pop => "pop"
  | .get => "get"
  | .split => "split"
  | .join => "join"
def mA : MT → Nat
  | .append => 1
  | .pop => 0
  | .get => 2
  | .split => 1
  | .join => 1
def isNm : Expr → Bool
  | .Name _ _ => true
  | _ => false
def isTp : Expr → Bool
  | .Tuple _ _ _ => true
  | _ => false
/-- what an iterator's arguments are -/
def itArgs (P : Info) (sc : Scope) (t : Expr) : IK → Expr → Option (List Expr)
  | .seq, e => some [e]
  | .rng1, .Call (.Name x _) [b] [] _ => if bltB P sc x "range" then some [b] else none
  | .rng2, .Call (.Name x _) [a, b] [] _ => if bltB P sc x "range" then some [a, b] else none
  | .zip, .Call (.Name x _) [a, b] [] _ => if bltB P sc x "zip" && isTp t then some [a, b] else none
  | .enum, .Call (.Name x _) [b] [] _ => if bltB P sc x "enumerate" && isTp t then some [b] else none
  | _, _ => none
def nmT (N : List Str) (sc : Scope) (fc : Str → Bool) (i : Nat) : Expr → Bool
  | .Name x _ => decide (N[i]? = some x) && (decide (sc.names.lookup x = some .local) || (decide (sc.names.lookup x = some .cell) && fc x))
  | _ => false
def nmTs (N : List Str) (sc : Scope) (fc : Str → Bool) : List Nat → List Expr → Bool
  | [], [] => true
  | i :: is, e :: es => nmT N sc fc i e && nmTs N sc fc is es
  | _, _ => false
def tgB (N : List Str) (sc : Scope) (fc : Str → Bool) : Tg → Expr → Bool
  | .one i, e => nmT N sc fc i e
  | .many is, .Tuple es _ _ => nmTs N sc fc is es
  | _, _ => false
def ownOf (N : List Str) (scope : Scope) : List (Str × Nat) := scope.names.filterMap fun y => if y.2 = .local ∨ y.2 = .cell then (N.idxOf? y.1).map fun i => (y.1, i) else none
def cellB (scope : Scope) (x : Str) : Bool := scope.names.lookup x == some .cell
/-! the same text (what lambdas are made of) -/
mutual
def eqE : Expr → Expr → Bool
  | .Name a p, e => (match e with
    | .Name b q => decide (a = b) && decide (p = q)
    | _ => false)
  | .Constant a k p, e => (match e with
    | .Constant b l q => decide (a = b) && decide (k = l) && decide (p = q)
    | _ => false)
  | .Attribute o a p, e => (match e with
    | .Attribute u b q => eqE o u && decide (a = b) && decide (p = q)
    | _ => false)
  | .Subscript o i p, e => (match e with
    | .Subscript u j q => eqE o u && eqE i j && decide (p = q)
    | _ => false)
  | .BinOp l o r p, e => (match e with
    | .BinOp l' u r' q => eqE l l' && decide (o = u) && eqE r r' && decide (p = q)
    | _ => false)
  | .Tuple es k p, e => (match e with
    | .Tuple us l q => eqEs es us && decide (k = l) && decide (p = q)
    | _ => false)
  | .Call f es ks p, e => (match ks, e with
    | [], .Call g us [] q => eqE f g && eqEs es us && decide (p = q)
    | _, _ => false)
  | _, _ => false
def eqEs : List Expr → List Expr → Bool
  | [], us => us.isEmpty
  | e :: es, us => (match us with
    | u :: us => eqE e u && eqEs es us
    | [] => false)
end
/-- no parameters -/
def argB (a b : Arguments) : Bool := a.posonlyargs.isEmpty && a.args.isEmpty && a.vararg.isNone && a.kwonlyargs.isEmpty && a.kw_defaults.isEmpty && a.kwarg.isNone && a.defaults.isEmpty &&
  (b.posonlyargs.isEmpty && b.args.isEmpty && b.vararg.isNone && b.kwonlyargs.isEmpty && b.kw_defaults.isEmpty && b.kwarg.isNone && b.defaults.isEmpty)
def lamB (P : Info) (N : List Str) (sc : Scope) (fc : Str → Bool) (i : Nat) (caps : List Nat) (pa : Arguments) (body : Expr) (scope : Scope) : Bool := match P.lams[i]?, P.mks.lookup sc with
  | some lam, some z => decide (lam.q = z ++ "<lambda>") && argB lam.pa pa && eqE lam.body body && decide (lam.scope = scope) && (scope.names.all fun y => !decide (y.2 = .free) || decide (y.1 ∈ lam.N.drop lam.ps.length)) &&
      ((lam.N.drop lam.ps.length).all fun y => decide (scope.names.lookup y = some .free) && decide ((y, NameKind.free) ∈ scope.names) && decide (sc.names.lookup y = some .cell) && fc y) &&
      decide ((lam.N.drop lam.ps.length).map some = caps.map fun i => N[i]?)
  | _, _ => false
def subB (a b : List Nat) : Bool := a.all fun i => decide (i ∈ b)
mutual
def chkE (P : Info) (N : List Str) : E → Expr → Scope → (Str → Bool) → Bool
  | .var i, e, sc, _ => (match e with
    | .Name x _ => decide (N[i]? = some x) && visB sc x && nmB x
    | _ => false)
  | .cst d, e, _, _ => (match e with
    | .Constant c _ _ => cstB d c
    | _ => false)
  | .glb j, e, sc, _ => (match e with
    | .Name x _ => decide (P.glb.lookup x = some j) && glbB sc x && nmB x
    | _ => false)
  | .tup ms, e, sc, fc => (match e with
    | .Tuple es _ _ => chkEs P N ms es sc fc && decide (ms.length ≤ 1000)
    | _ => false)
  | .lst ms, e, sc, fc => (match e with
    | .List es _ => chkEs P N ms es sc fc && decide (ms.length ≤ 1000)
    | _ => false)
  | .newl ms, e, sc, fc => (match e with
    | .List es _ => chkEs P N ms es sc fc && decide (ms.length ≤ 1000)
    | _ => false)
  | .dct ks ms, e, sc, fc => (match e with
    | .Dict kes es _ => keysE ks kes && chkEs P N ms es sc fc && decide (ks.length = es.length) && decide (ks.length ≤ 15) && decide (ks ≠ [])
    | _ => false)
  | .newd ks ms, e, sc, fc => (match e with
    | .Dict kes es _ => keysE ks kes && chkEs P N ms es sc fc && decide (ks.length = es.length) && decide (ks.length ≤ 15) && decide (ks ≠ [])
    | _ => false)
  | .cpd a, e, sc, fc => (match e with
    | .Call (.Name x _) [b] [] _ => bltB P sc x "dict" && plainE b && chkE P N a b sc fc
    | _ => false)
  | .bin o a b, e, sc, fc => (match e with
    | .BinOp l op r _ => opB o op && chkE P N a l sc fc && chkE P N b r sc fc
    | _ => false)
  | .addl a b, e, sc, fc => (match e with
    | .BinOp l op r _ => opB .add op && chkE P N a l sc fc && chkE P N b r sc fc
    | _ => false)
  | .cmp o a b, e, sc, fc => (match e with
    | .Compare l [op] [r] _ => cmB o op && plainE r && chkE P N a l sc fc && chkE P N b r sc fc
    | _ => false)
  | .chn o p a b c, e, sc, fc => (match e with
    | .Compare l [op, op'] [r, q] _ => cmB o op && cmB p op' && plainE q && chkE P N a l sc fc && chkE P N b r sc fc && chkE P N c q sc fc
    | _ => false)
  | .bo k ms, e, sc, fc => (match e with
    | .BoolOp op es _ => boB k op && chkEs P N ms es sc fc && decide (ms.length ≠ 0)
    | _ => false)
  | .nt a, e, sc, fc => (match e with
    | .UnaryOp .Not x _ => chkE P N a x sc fc
    | _ => false)
  | .neg a, e, sc, fc => (match e with
    | .UnaryOp .USub x _ => chkE P N a x sc fc
    | _ => false)
  | .ite t a b, e, sc, fc => (match e with
    | .IfExp t' a' b' _ => chkE P N t t' sc fc && chkE P N a a' sc fc && chkE P N b b' sc fc
    | _ => false)
  | .call f ms, e, sc, fc => (match e with
    | .Call (.Name x _) es [] _ => decide (P.fns.lookup x = some (f, ms.length)) && glbB sc x && nmB x && chkEs P N ms es sc fc
    | _ => false)
  | .bi f ms, e, sc, fc => (match e with
    | .Call (.Name x _) es [] _ => bltB P sc x (bN f) && chkEs P N ms es sc fc && decide (ms.length ≠ 0)
    | _ => false)
  | .isi a t, e, sc, fc => (match e with
    | .Call (.Name x _) [b, .Name y _] [] _ => bltB P sc x "isinstance" && bltB P sc y (tN t) && plainE b && chkE P N a b sc fc
    | _ => false)
  | .ix a i, e, sc, fc => (match e with
    | .Subscript o j _ => plainE j && chkE P N a o sc fc && chkE P N i j sc fc
    | _ => false)
  | .sl a lo hi, e, sc, fc => (match e with
    | .Subscript o (.Slice l h none _) _ => chkE P N a o sc fc && chkP P N lo l sc fc && chkP P N hi h sc fc
    | _ => false)
  | .lc elt tg k ms c, e, sc, fc => (match e with
    | .ListComp el [⟨t, iter, ifs, 0⟩] scope _ => (match itArgs P sc t k iter with
      | some bs => chkEs P N ms bs sc fc && plainE iter && blkC N sc scope (ownOf N scope) && tgB N (relS scope sc) (cellB scope) tg t && chkC P N c ifs (relS scope sc) (cellB scope) && chkE P N elt el (relS scope sc) (cellB scope) &&
        subB ((ownOf N scope).map (·.2)) (tgS tg) && subB (tgS tg) ((ownOf N scope).map (·.2)) && decide (P.mks.lookup (relS scope sc) = none)
      | none => false)
    | _ => false)
  | .mt f o ms, e, sc, fc => (match e with
    | .Call (.Attribute p x apos) es [] pos => decide (x = mN f) && noSup p && (apos.endLine == pos.line) && decide (ms.length = mA f) && chkE P N o p sc fc && chkEs P N ms es sc fc
    | _ => false)
  | .frz a, e, sc, fc => isNm e && chkE P N a e sc fc
  | .cc i es, e, sc, _ => (match e with
    | .Call (.Name x _) [] [] _ => decide (N[i]? = some x) && visB sc x && nmB x && es.isEmpty
    | _ => false)
  | .clz f i caps, e, sc, fc => (match e with
    | .Call (.Name x _) [.Lambda pa body scope _] [] _ => decide (P.fns.lookup x = some (f, 1)) && glbB sc x && nmB x && lamB P N sc fc i caps pa body scope
    | _ => false)
  | .fld k x a, e, sc, fc => (match e with
    | .Attribute o y _ => decide (y = x) && noSup o && decide (Ob.cls k ∈ P.obs) && decide (Ob.noat k x ∈ P.obs) && chkE P N a o sc fc
    | _ => false)
  | .mth x k f o ms, e, sc, fc => (match e with
    | .Call (.Attribute p y apos) es [] pos => decide (y = x) && noSup p && (apos.endLine == pos.line) && decide (Ob.cls k ∈ P.obs) && decide (Ob.meth x k f (ms.length + 1) ∈ P.obs) && decide (ms.length < 30) && chkE P N o p sc fc && chkEs P N ms es sc fc
    | _ => false)
  | .ow1 h k f a, e, sc, fc => (match h, e with
    | .prop x, .Attribute o y _ => decide (y = x) && noSup o && decide (Ob.cls k ∈ P.obs) && decide (Ob.prop x k f ∈ P.obs) && chkE P N a o sc fc
    | .len, .Call (.Name x _) [o] [] _ => bltB P sc x "len" && plainE o && decide (Ob.len k f ∈ P.obs) && chkE P N a o sc fc
    | _, _ => false)
  | .ow2 h k f a b, e, sc, fc => (match h, e with
    | .get, .Subscript o i _ => plainE i && decide (Ob.get k f ∈ P.obs) && chkE P N a o sc fc && chkE P N b i sc fc
    | .eq, .Compare o [.Eq] [i] _ => plainE i && decide (Ob.eq k f ∈ P.obs) && chkE P N a o sc fc && chkE P N b i sc fc
    | .bin w, .BinOp l op r _ => decide (op = opOf w) && decide (Ob.bin w k f ∈ P.obs) && chkE P N a l sc fc && chkE P N b r sc fc
    | .call, .Call (.Name x q) [i] [] _ => plainE i && decide (Ob.call k f ∈ P.obs) && chkE P N a (.Name x q) sc fc && chkE P N b i sc fc
    | _, _ => false)
  | .gix x ys a, e, sc, fc => (match e with
    | .Call (.Attribute (.Name y _) n apos) [b] [] pos => decide (y = x) && decide (n = "index") && glbB sc y && nmB y && (apos.endLine == pos.line) && decide (Ob.gix x ys ∈ P.obs) && plainE b && chkE P N a b sc fc
    | _ => false)
  | .isc k a, e, sc, fc => (match e with
    | .Call (.Name x _) [b, .Name y _] [] _ => bltB P sc x "isinstance" && glbB sc y && nmB y && decide (Ob.isc y k ∈ P.obs) && plainE b && chkE P N a b sc fc
    | _ => false)
  | .mkd x k f ms dfl, e, sc, fc => (match e with
    | .Call (.Name y _) es [] _ => decide (y = x) && glbB sc x && nmB x && decide (Ob.maked x k f (ms.length + 1) dfl ∈ P.obs) && decide (ms.length ≠ 0) && chkEs P N ms es sc fc
    | _ => false)
  | .mkv i x k f ms, e, sc, fc => (match e with
    | .Call (.Name y _) es [] _ => decide (N[i]? = some y) && visB sc y && nmB y && decide (Ob.make x k f (ms.length + 1) ∈ P.obs) && decide (ms.length ≠ 0) && chkEs P N ms es sc fc
    | _ => false)
  | .cmt q x k f ms, e, sc, fc => (match e with
    | .Call (.Attribute (.Name y _) z apos) es [] pos => decide (y = q) && decide (z = x) && glbB sc q && nmB q && (apos.endLine == pos.line) && decide (Ob.cmet q x k f (ms.length + 1) ∈ P.obs) && decide (ms.length < 30) && decide (ms.length ≠ 0) && chkEs P N ms es sc fc
    | _ => false)
  | .eqn a, e, sc, fc => (match e with
    | .Compare l [.Eq] [.List [] _] _ => chkE P N a l sc fc
    | _ => false)
  | .mk k f ms, e, sc, fc => (match e with
    | .Call (.Name x _) es [] _ => glbB sc x && nmB x && decide (Ob.make x k f (ms.length + 1) ∈ P.obs) && decide (ms.length ≠ 0) && chkEs P N ms es sc fc
    | _ => false)
def chkEs (P : Info) (N : List Str) : List E → List Expr → Scope → (Str → Bool) → Bool
  | [], es, _, _ => (match es with
    | [] => true
    | _ => false)
  | m :: ms, es, sc, fc => (match es with
    | e :: es => plainE e && chkE P N m e sc fc && chkEs P N ms es sc fc
    | [] => false)
def chkP (P : Info) (N : List Str) : Option E → Option Expr → Scope → (Str → Bool) → Bool
  | none, e, _, _ => (match e with
    | none => true
    | _ => false)
  | some m, e, sc, fc => (match e with
    | some e => chkE P N m e sc fc
    | none => false)
def chkC (P : Info) (N : List Str) : Option E → List Expr → Scope → (Str → Bool) → Bool
  | none, es, _, _ => (match es with
    | [] => true
    | _ => false)
  | some m, es, sc, fc => (match es with
    | [e] => chkE P N m e sc fc
    | _ => false)
end
end Mi
/-! Mini: what the check gives. -/
namespace Mi
open PySem PySem.Spec PyProof.Rows L2
variable [Glb]
theorem and2 {a b : Bool} (h : (a && b) = true) : a = true ∧ b = true := Bool.and_eq_true_iff.mp h
section
variable {Γ : Gam} {X : Cx} {N : List Str} {sc : Scope} {fc : Str → Bool} {P : Info} {G : Nat → Option D} {C : Call}
theorem nmB_iff {x : Str} (h : nmB x = true) : (x == ("__debug__" : Str)) = false ∧ (x == ("__classdict__" : Str)) = false := by
  obtain ⟨h1, h2⟩ := and2 h
  exact ⟨by simpa using h1, by simpa using h2⟩
theorem visB_iff {x : Str} (h : visB sc x = true) : Vis sc x := by
  unfold visB at h
  rcases Bool.or_eq_true_iff.mp h with h | h
  · rcases Bool.or_eq_true_iff.mp h with h | h
    · exact .inl (of_decide_eq_true h)
    · exact .inr (.inl (of_decide_eq_true h))
  · exact .inr (.inr (of_decide_eq_true h))
theorem Cok.gln (c : Cok Γ X N sc fc P G C) {x : Str} (h : glbB sc x = true) : Gl X x := by
  show X.env.scope.names.lookup x = _
  rw [c.sc]
  exact of_decide_eq_true h
theorem Cok.blt (c : Cok Γ X N sc fc P G C) {x want : Str} {u : Value} (h : bltB P sc x want = true) (hw : bootBuiltins want = some u) (n1 : want ≠ "__name__") (n2 : (want == ("__debug__" : Str)) = false) : BltN X x u := by
  obtain ⟨h, h3⟩ := and2 h
  obtain ⟨h1, h2⟩ := and2 h
  have e : x = want := of_decide_eq_true h1
  subst e
  exact ⟨c.gln h2, c.bl _ (of_decide_eq_true h3), hw, n1, n2⟩
theorem Cok.rng (c : Cok Γ X N sc fc P G C) {x want : Str} (h : bltB P sc x want = true) : x = want ∧ RngN X want := by
  obtain ⟨h, h3⟩ := and2 h
  obtain ⟨h1, h2⟩ := and2 h
  have e : x = want := of_decide_eq_true h1
  subst e
  exact ⟨rfl, c.gln h2, c.bl _ (of_decide_eq_true h3)⟩
theorem Cok.opOk (c : Cok Γ X N sc fc P G C) {o : BOp} {op : Operator} (h : opB o op = true) : OpOk X Γ (binaryOp op) (fun m => binD m o) := by
  cases o <;> cases op <;> first | (cases h; done) | exact ok_add c.k | exact ok_sub | exact ok_mul c.k | exact ok_fdiv | exact ok_mod | exact ok_pow
theorem Cok.cmOk (c : Cok Γ X N sc fc P G C) {o : COp} {op : CmpOp} (h : cmB o op = true) : CmpOk X Γ op o := by
  have u := c.u
  cases o <;> cases op <;> first | (cases h; done) | exact ok_eq c.k (by omega) | exact ok_ne c.k (by omega) | exact ok_ltD op_lt | exact ok_ltD op_le | exact ok_ltD op_gt | exact ok_ltD op_ge | exact ok_is | exact ok_isnot | exact ok_in c.k c.u | exact ok_notin c.k c.u
theorem cst_ok {d : D} {c : Const} {j : Nat} {pos : Pos} (h : cstB d c = true) : ∃ v, PE X (.Constant c j pos) (tC v) ∧ cstV d = some v := by
  cases d with
  | non =>
    cases c <;> first | (cases h; done) | exact ⟨_, pe_non, rfl⟩
  | bl b =>
    cases c <;> first | (cases h; done) | skip
    have e := of_decide_eq_true h
    subst e
    exact ⟨_, pe_bl, rfl⟩
  | int b =>
    cases c <;> first | (cases h; done) | skip
    have e := of_decide_eq_true h
    subst e
    exact ⟨_, pe_int, rfl⟩
  | str b =>
    cases c <;> first | (cases h; done) | skip
    have e := of_decide_eq_true h
    subst e
    exact ⟨_, pe_str, rfl⟩
  | _ => cases c <;> cases h
theorem Cok.biOk (c : Cok Γ X N sc fc P G C) (f : BI) : (∃ id, bootBuiltins (bN f) = some (.builtin id) ∧ BiOk X Γ (.builtin id) f) ∨ ∃ id, bootBuiltins (bN f) = some (.type id) ∧ BiOk X Γ (.type id) f := by
  cases f with
  | len => exact .inl ⟨_, by decide +kernel, bi_len c.k⟩
  | abs => exact .inl ⟨_, by decide +kernel, bi_abs⟩
  | int => exact .inr ⟨_, by decide +kernel, bi_int⟩
  | tuple => exact .inr ⟨_, by decide +kernel, bi_tuple c.k⟩
  | list => exact .inr ⟨_, by decide +kernel, bi_list c.k⟩
  | all => exact .inl ⟨_, by decide +kernel, bi_all c.calm⟩
  | any => exact .inl ⟨_, by decide +kernel, bi_any c.calm⟩
  | sum => exact .inl ⟨_, by decide +kernel, bi_sum c.calm⟩
  | min2 => exact .inl ⟨_, by decide +kernel, bi_min2 c.calm⟩
  | max2 => exact .inl ⟨_, by decide +kernel, bi_max2 c.calm⟩
  | sorted => exact .inl ⟨_, by decide +kernel, bi_sorted⟩
theorem bN_nn (f : BI) : bN f ≠ "__name__" := by cases f <;> decide
theorem bN_nd (f : BI) : (bN f == ("__debug__" : Str)) = false := by cases f <;> decide
theorem tN_boot (t : Ty) : bootBuiltins (tN t) = some (.type (tyN t)) := by cases t <;> decide +kernel
theorem tN_nn (f : Ty) : tN f ≠ "__name__" := by cases f <;> decide
theorem tN_nd (f : Ty) : (tN f == ("__debug__" : Str)) = false := by cases f <;> decide
theorem SEs.nonempty {es : List Expr} {ms : List E} (h : SEs Γ X G C es ms) (hl : ms.length ≠ 0) : ∃ e es', es = e :: es' := by
  cases h with
  | nil => exact absurd rfl hl
  | cons _ _ _ => exact ⟨_, _, rfl⟩
/-- and, or, by their parts -/
theorem se_bos {k : Bool} {op : BoolOp} {pos : Pos} (hk : boB k op = true) : ∀ {es : List Expr} {ms : List E}, SEs Γ X G C es ms → ms.length ≠ 0 → SE Γ X (.BoolOp op es pos) (evalB G C k ms)
  | _, _, .nil, h => absurd rfl h
  | _, _, .cons _ h1 .nil, _ => se_bo1 h1
  | _, _, .cons p1 h1 (.cons p2 h2 t), _ => by
    have ih := se_bos (pos := pos) hk (.cons p2 h2 t) (by simp)
    cases k <;> cases op <;> first | (cases hk; done) | exact se_and h1 ih | exact se_or h1 ih
/-- tests, each by its own run -/
inductive STs (Γ : Gam) (X : Cx) (G : Nat → Option D) (C : Call) : List Expr → List E → Prop
  | nil : STs Γ X G C [] []
  | cons {e : Expr} {es : List Expr} {d : E} {ds : List E} : ST Γ X e (fun env m => test (eval G C d env m)) → STs Γ X G C es ds → STs Γ X G C (e :: es) (d :: ds)
theorem sw_bos {k : Bool} {op : BoolOp} {pos : Pos} (hk : boB k op = true) : ∀ {es : List Expr} {ms : List E}, STs Γ X G C es ms → ms.length ≠ 0 → SW Γ X (.BoolOp op es pos) (fun env m => test (evalB G C k ms env m))
  | _, _, .nil, h => absurd rfl h
  | _, _, .cons h1 .nil, _ => sw_one h1
  | _, _, .cons h1 (.cons h2 t), _ => by
    have ih := sw_bos (pos := pos) hk (.cons h2 t) (by simp)
    cases k <;> cases op <;> first | (cases hk; done) | exact sw_and h1 ih | exact sw_or h1 ih
theorem se_addl {a b : Expr} {ea eb : Env → MH → R D} {pos : Pos} (hK : X.K = Γ.K) (ha : SE Γ X a ea) (hb : SE Γ X b eb) : SE Γ X (.BinOp a .Add b pos) (fun env m => (ea env m).bind fun x m => (eb env m).bind fun y m => match addD m x y with
    | some (.lst xs) => .ok (.ref m.length) (m ++ [.lst xs])
    | _ => .stuck) := fun W tk => by
  refine wkE (pe_op op_cat (ha W tk) (hb W tk)) fun σ H Q ⟨env, m, loc, A, p⟩ => sub A p fun v1 H1 d1 m1 loc1 _ A1 k1 r1 p1 => sub A1 p1 fun v2 H2 d2 m2 loc2 _ A2 k2 r2 p2 => ?_
  have r1 := r1.mono k2
  cases q : addD m2 d1 d2 with
  | none =>
    rw [q] at p2
    exact (show False from p2).elim
  | some d =>
    rw [q] at p2
    cases d with
    | lst zs =>
      have key : ∃ xs ys, asL m2 d1 = some xs ∧ asL m2 d2 = some ys ∧ xs.length + ys.length ≤ LIM ∧ zs = xs ++ ys := by
        have more : (match asL m2 d1 with
          | some xs => (match asL m2 d2 with
            | some ys => if xs.length + ys.length ≤ LIM then some (D.lst (xs ++ ys)) else none
            | none => none)
          | none => none) = some (D.lst zs) → ∃ xs ys, asL m2 d1 = some xs ∧ asL m2 d2 = some ys ∧ xs.length + ys.length ≤ LIM ∧ zs = xs ++ ys := fun q => by
          cases h1 : asL m2 d1 with
          | none =>
            rw [h1] at q
            cases q
          | some xs =>
            rw [h1] at q
            cases h2 : asL m2 d2 with
            | none =>
              rw [h2] at q
              cases q
            | some ys =>
              rw [h2] at q
              have q : (if xs.length + ys.length ≤ LIM then some (D.lst (xs ++ ys)) else none) = some (D.lst zs) := q
              split at q
              · rename_i hz
                cases q
                exact ⟨xs, ys, rfl, rfl, hz, rfl⟩
              · cases q
        cases d1 with
        | int i => cases d2 <;> cases q
        | str i =>
          cases d2 with
          | str j =>
            have q : (if i.length + j.length ≤ LIM then some (D.str (i ++ j)) else none) = some (D.lst zs) := q
            split at q <;> cases q
          | _ => cases q
        | tup i =>
          cases d2 with
          | tup j =>
            have q : (if i.length + j.length ≤ LIM then some (D.tup (i ++ j)) else none) = some (D.lst zs) := q
            split at q <;> cases q
          | _ => cases q
        | non => exact more q
        | bl _ => exact more q
        | lst _ => exact more q
        | dic _ => exact more q
        | scr _ => exact more q
        | ref _ => exact more q
        | cls _ => exact more q
      obtain ⟨xs, ys, h1, h2, hz, rfl⟩ := key
      obtain ⟨a, vs, rfl, ha, z1, q1⟩ := asL_rep A2.1 r1 h1
      obtain ⟨b, ws, rfl, hb, z2, q2⟩ := asL_rep A2.1 r2 h2
      have p2 : Po Γ (fun c d H => W c d σ H) H2 m2 loc2 (rlD Γ) (.ok (.ref m2.length) (m2 ++ [.lst (xs ++ ys)])) Q := p2
      rw [← q1.length, ← q2.length] at hz
      refine ⟨a, b, vs, ws, rfl, rfl, ha, hb, lim_le hz, fun q hq => p2 _ _ (loc2.push q) (A2.1.push hq ⟨_, upd_same, by rw [List.length_append]; exact hz, (q1.append q2).mono (kp_push A2.1 hq)⟩) (kp_push A2.1 hq) (.ref (push_at A2.1))⟩
    | _ => exact (show False from p2).elim
theorem nmT_ok (c : Cok Γ X N sc fc P G C) {i : Nat} {e : Expr} (h : nmT N sc fc i e = true) : ∃ x pos, e = .Name x pos ∧ X.N[i]? = some x ∧ L2.Loc X.env.scope x ∧ (X.fn x = true ∨ X.env.scope.names.lookup x = some .local) := by
  cases e <;> first | (cases h; done) | skip
  rename_i x pos
  obtain ⟨h1, h2⟩ := and2 h
  refine ⟨x, pos, rfl, by rw [c.n]; exact of_decide_eq_true h1, ?_⟩
  rw [c.sc]
  rcases Bool.or_eq_true_iff.mp h2 with h | h
  · exact ⟨.inl (of_decide_eq_true h), .inr (of_decide_eq_true h)⟩
  · obtain ⟨h3, h4⟩ := and2 h
    exact ⟨.inr (of_decide_eq_true h3), .inl (c.fc x h4)⟩
theorem nmTs_ok (c : Cok Γ X N sc fc P G C) : ∀ {is : List Nat} {es : List Expr}, nmTs N sc fc is es = true → NmS X es is
  | [], [], _ => .nil
  | [], _ :: _, h => by cases h
  | _ :: _, [], h => by cases h
  | i :: is, e :: es, h => by
    obtain ⟨h1, h2⟩ := and2 h
    obtain ⟨x, pos, rfl, a1, a2, a3⟩ := nmT_ok c h1
    exact .cons a1 a2 a3 (nmTs_ok c h2)
theorem tgB_ok (c : Cok Γ X N sc fc P G C) {tg : Tg} {e : Expr} (h : tgB N sc fc tg e = true) : TgOk X e tg := by
  cases tg with
  | one i =>
    obtain ⟨x, pos, rfl, a1, a2, a3⟩ := nmT_ok c h
    exact .one a1 a2 a3
  | many is =>
    cases e <;> first | (cases h; done) | skip
    exact .many (nmTs_ok c h)
theorem Cok.blk (c : Cok Γ X N sc fc P G C) {scope : Scope} (hmk : P.mks.lookup (relS scope sc) = none) (s : Shared) (H : Hp) (Ca : Addr) (cl : List (Str × Addr)) (fp : List Addr) : Cok Γ (X.blk s H scope (compEnvC scope cl Ca X.env) fp) N (relS scope sc) (cellB scope) P G C :=
  ⟨c.n, c.nd, by rw [← c.sc]; rfl, c.k, c.calm, c.u, fun x h => h, c.fn, c.gl, c.bl, c.ex, c.tr, c.tv, fun z h => (by
    have h : P.mks.lookup (relS scope X.env.scope) = some z := h
    rw [c.sc, hmk] at h
    cases h), c.lm, ⟨c.ls.w, c.ls.p⟩, fun q h => by cases q <;> exact c.ob _ h, c.tk, c.ini⟩
theorem SEs.get1 {es : List Expr} {ms : List E} {e : Expr} (h : SEs Γ X G C [e] ms) : ∃ m, ms = [m] ∧ plainE e = true ∧ SE Γ X e (eval G C m) := by
  cases h with
  | cons p s t =>
    cases t
    exact ⟨_, rfl, p, s⟩
theorem SEs.get2 {ms : List E} {e f : Expr} (h : SEs Γ X G C [e, f] ms) : ∃ m n, ms = [m, n] ∧ plainE e = true ∧ plainE f = true ∧ SE Γ X e (eval G C m) ∧ SE Γ X f (eval G C n) := by
  cases h with
  | cons p s t =>
    cases t with
    | cons p' s' t =>
      cases t
      exact ⟨_, _, rfl, p, p', s, s'⟩
theorem isTp_iff {t : Expr} (h : isTp t = true) : ∃ es k p, t = .Tuple es k p := by
  cases t <;> first | (cases h; done) | exact ⟨_, _, _, rfl⟩
theorem it_ok (c : Cok Γ X N sc fc P G C) {t iter : Expr} {k : IK} {bs : List Expr} {ms : List E} (h : itArgs P sc t k iter = some bs) (hs : SEs Γ X G C bs ms) : SI Γ X t iter (itE G C k ms) := by
  unfold itArgs at h
  split at h
  · cases h
    obtain ⟨m, rfl, p, s⟩ := hs.get1 (es := [])
    exact si_seq c.k s
  · split at h
    · rename_i hb
      cases h
      obtain ⟨m, rfl, p, s⟩ := hs.get1 (es := [])
      obtain ⟨rfl, r⟩ := c.rng hb
      exact si_rng1 r p s
    · cases h
  · split at h
    · rename_i hb
      cases h
      obtain ⟨m, n, rfl, p, p', s, s'⟩ := hs.get2
      obtain ⟨rfl, r⟩ := c.rng hb
      exact si_rng2 r p p' s s'
    · cases h
  · split at h
    · rename_i hb
      cases h
      obtain ⟨hb1, ht⟩ := and2 hb
      clear hb
      obtain ⟨_, _, _, rfl⟩ := isTp_iff ht
      obtain ⟨m, n, rfl, p, p', s, s'⟩ := hs.get2
      obtain ⟨rfl, r⟩ := c.rng hb1
      exact si_zip c.k r p p' s s'
    · cases h
  · split at h
    · rename_i hb
      cases h
      obtain ⟨hb1, ht⟩ := and2 hb
      clear hb
      obtain ⟨_, _, _, rfl⟩ := isTp_iff ht
      obtain ⟨m, rfl, p, s⟩ := hs.get1 (es := [])
      obtain ⟨rfl, r⟩ := c.rng hb1
      exact si_enum c.k r p s
    · cases h
  · cases h
/-- a comprehension's test -/
theorem cond_none : PTs X [] (tT Γ W0 (evalC G C none)) := ⟨fun pins s σ H Q I ⟨env, m, loc, A, p⟩ => pts_nil.run pins s σ H Q I (show Q true H from (show Po Γ (fun c d H => W0 c d σ H) H m loc rlB (.ok true m) Q from p).ret A.1 rfl)⟩
theorem cond_some {x : Expr} {d : E} (h : PT X x (tT Γ W0 (fun env m => test (eval G C d env m)))) : PTs X [x] (tT Γ W0 (evalC G C (some d))) := by
  refine pts_one ⟨fun pins s σ H Q I hw => h.run pins s σ H Q I ?_⟩
  obtain ⟨env, m, loc, A, p⟩ := hw
  refine ⟨env, m, loc, A, ?_⟩
  have p : Po Γ (fun c d H => W0 c d σ H) H m loc rlB ((noX (eval G C d env m)).bind fun x m => ofO (truth m x) m) Q := p
  dsimp only
  unfold test
  cases e : eval G C d env m with
  | ok y m1 =>
    rw [e] at p
    exact p
  | exc y m1 =>
    rw [e] at p
    exact (show False from p).elim
  | stuck =>
    rw [e] at p
    exact p
theorem nox_el {x : Expr} {d : E} (h : PE X x (tE Γ W0 (eval G C d))) : PE X x (tE Γ W0 (fun env m => noX (eval G C d env m))) := by
  refine ⟨fun pins s σ H Q I hw => h.run pins s σ H Q I ?_⟩
  obtain ⟨env, m, loc, A, p⟩ := hw
  refine ⟨env, m, loc, A, ?_⟩
  dsimp only at p
  cases e : eval G C d env m with
  | ok y m1 =>
    rw [e] at p
    exact p
  | exc y m1 =>
    rw [e] at p
    exact (show False from p).elim
  | stuck =>
    rw [e] at p
    exact p
theorem noX_noexc {r : R D} : ∀ x m', noX r ≠ .exc x m' := fun x m' h => by
  cases r <;> cases h
theorem evalC_noexc {o : Option E} : ∀ env m x m', evalC G C o env m ≠ .exc x m' := fun env m x m' h => by
  cases o with
  | none => cases h
  | some d =>
    have h : (noX (eval G C d env m)).bind (fun x m => ofO (truth m x) m) = .exc x m' := h
    cases e : eval G C d env m with
    | ok y m1 =>
      rw [e] at h
      have h : ofO (truth m1 y) m1 = .exc x m' := h
      cases q : truth m1 y with
      | none =>
        rw [q] at h
        cases h
      | some b =>
        rw [q] at h
        cases h
    | exc y m1 =>
      rw [e] at h
      cases h
    | stuck =>
      rw [e] at h
      cases h
mutual
theorem eqE_ok : ∀ {a b : Expr}, eqE a b = true → a = b
  | .Name _ _, e, h => by
    unfold eqE at h
    split at h
    · obtain ⟨h1, h2⟩ := and2 h
      rw [of_decide_eq_true h1, of_decide_eq_true h2]
    · cases h
  | .Constant _ _ _, e, h => by
    unfold eqE at h
    split at h
    · obtain ⟨h, h3⟩ := and2 h
      obtain ⟨h1, h2⟩ := and2 h
      rw [of_decide_eq_true h1, of_decide_eq_true h2, of_decide_eq_true h3]
    · cases h
  | .Attribute _ _ _, e, h => by
    unfold eqE at h
    split at h
    · obtain ⟨h, h3⟩ := and2 h
      obtain ⟨h1, h2⟩ := and2 h
      rw [eqE_ok h1, of_decide_eq_true h2, of_decide_eq_true h3]
    · cases h
  | .Subscript _ _ _, e, h => by
    unfold eqE at h
    split at h
    · obtain ⟨h, h3⟩ := and2 h
      obtain ⟨h1, h2⟩ := and2 h
      rw [eqE_ok h1, eqE_ok h2, of_decide_eq_true h3]
    · cases h
  | .BinOp _ _ _ _, e, h => by
    unfold eqE at h
    split at h
    · obtain ⟨h, h4⟩ := and2 h
      obtain ⟨h, h3⟩ := and2 h
      obtain ⟨h1, h2⟩ := and2 h
      rw [eqE_ok h1, of_decide_eq_true h2, eqE_ok h3, of_decide_eq_true h4]
    · cases h
  | .Tuple _ _ _, e, h => by
    unfold eqE at h
    split at h
    · obtain ⟨h, h3⟩ := and2 h
      obtain ⟨h1, h2⟩ := and2 h
      rw [eqEs_ok h1, of_decide_eq_true h2, of_decide_eq_true h3]
    · cases h
  | .Call _ _ _ _, e, h => by
    unfold eqE at h
    split at h
    · obtain ⟨h, h3⟩ := and2 h
      obtain ⟨h1, h2⟩ := and2 h
      rw [eqE_ok h1, eqEs_ok h2, of_decide_eq_true h3]
    · cases h
  | .BoolOp .., _, h | .NamedExpr .., _, h | .UnaryOp .., _, h | .Lambda .., _, h | .IfExp .., _, h | .Dict .., _, h | .Set .., _, h | .ListComp .., _, h | .SetComp .., _, h | .DictComp .., _, h | .GeneratorExp .., _, h | .Await .., _, h | .Yield .., _, h | .YieldFrom .., _, h | .Compare .., _, h | .FormattedValue .., _, h | .JoinedStr .., _, h | .Starred .., _, h | .List .., _, h | .Slice .., _, h => by
    unfold eqE at h
    cases h
theorem eqEs_ok : ∀ {a b : List Expr}, eqEs a b = true → a = b
  | [], u, h => by
    unfold eqEs at h
    exact (List.isEmpty_iff.mp h).symm
  | e :: es, u, h => by
    unfold eqEs at h
    split at h
    · obtain ⟨h1, h2⟩ := and2 h
      rw [eqE_ok h1, eqEs_ok h2]
    · cases h
end
theorem argB_ok {a b : Arguments} (h : argB a b = true) (env : PySem.Env) : a = b ∧ defaultsOf b env = ([], []) := by
  unfold argB at h
  obtain ⟨h, hb⟩ := and2 h
  have emp : ∀ a : Arguments, (a.posonlyargs.isEmpty && a.args.isEmpty && a.vararg.isNone && a.kwonlyargs.isEmpty && a.kw_defaults.isEmpty && a.kwarg.isNone && a.defaults.isEmpty) = true → a = ⟨[], [], none, [], [], none, []⟩ := fun a h => by
    obtain ⟨a1, a2, a3, a4, a5, a6, a7⟩ := a
    obtain ⟨h, h7⟩ := and2 h
    obtain ⟨h, h6⟩ := and2 h
    obtain ⟨h, h5⟩ := and2 h
    obtain ⟨h, h4⟩ := and2 h
    obtain ⟨h, h3⟩ := and2 h
    obtain ⟨h1, h2⟩ := and2 h
    have g1 : a1 = [] := List.isEmpty_iff.mp h1
    have g2 : a2 = [] := List.isEmpty_iff.mp h2
    have g3 : a3 = none := Option.isNone_iff_eq_none.mp h3
    have g4 : a4 = [] := List.isEmpty_iff.mp h4
    have g5 : a5 = [] := List.isEmpty_iff.mp h5
    have g6 : a6 = none := Option.isNone_iff_eq_none.mp h6
    have g7 : a7 = [] := List.isEmpty_iff.mp h7
    rw [g1, g2, g3, g4, g5, g6, g7]
  rw [emp a h, emp b hb]
  exact ⟨rfl, rfl⟩
theorem lamB_ok (c : Cok Γ X N sc fc P G C) {i : Nat} {caps : List Nat} {pa : Arguments} {body : Expr} {scope : Scope} (h : lamB P N sc fc i caps pa body scope = true) : ∃ lam, Glb.t[i]? = some lam ∧ MakesAt X Γ ∧ LamHere X lam pa body scope caps := by
  unfold lamB at h
  split at h
  · rename_i lam z e1 e2
    obtain ⟨h, h7⟩ := and2 h
    obtain ⟨h, h6⟩ := and2 h
    obtain ⟨h, h5⟩ := and2 h
    obtain ⟨h, h4⟩ := and2 h
    obtain ⟨h, h3⟩ := and2 h
    obtain ⟨h1, h2⟩ := and2 h
    obtain ⟨M, hq⟩ := c.mkr z (by rw [c.sc]; exact e2)
    obtain ⟨ha, hd⟩ := argB_ok h2 X.env
    refine ⟨lam, by rw [← c.lm]; exact e1, M, ⟨by rw [hq]; exact of_decide_eq_true h1, ha, eqE_ok h3, of_decide_eq_true h4, hd, fun y hy e => ?_, fun y hy => ?_, by rw [c.n]; exact of_decide_eq_true h7⟩⟩
    · have q := List.all_eq_true.mp h5 y hy
      rw [decide_eq_true e] at q
      exact of_decide_eq_true (by simpa using q)
    · have q := List.all_eq_true.mp h6 y hy
      obtain ⟨q, q4⟩ := and2 q
      obtain ⟨q, q3⟩ := and2 q
      obtain ⟨q1, q2⟩ := and2 q
      exact ⟨⟨of_decide_eq_true q1, of_decide_eq_true q2⟩, by rw [c.sc]; exact of_decide_eq_true q3, c.fc y q4⟩
  · cases h
theorem subB_iff {a b : List Nat} (h : subB a b = true) : ∀ i ∈ a, i ∈ b := fun i hi => of_decide_eq_true (List.all_eq_true.mp h i hi)
end
end Mi
/-! Mini: the check of expressions is sound. -/
namespace Mi
open PySem PySem.Spec PyProof.Rows L2
variable [Glb]
section
variable {Γ : Gam} {N : List Str} {P : Info} {G : Nat → Option D} {C : Call}
theorem boot_isi : bootBuiltins "isinstance" = some (.builtin "isinstance") := by decide +kernel
theorem boot_len : bootBuiltins "len" = some (.builtin "len") := by decide +kernel
theorem boot_dic : bootBuiltins "dict" = some (.type "dict") := by decide +kernel
theorem noSup_of {o : Expr} : noSup o = noSup o := rfl
/-- an expression whose test is its truth -/
def plainT : Expr → Bool
  | .UnaryOp .Not _ _ => false
  | .BoolOp .. => false
  | .IfExp .. => false
  | .Compare .. => false
  | _ => true
theorem truthy_plain {e : Expr} (h : plainT e = true) (env : PySem.Env) : ∀ whole, isTrue e env whole = (do let v ← whole; standAt e.pos; holding [v] (truthy v)) := by
  intro whole
  cases e <;> first | rfl | (cases h; done) | skip
  rename_i op x p
  cases op <;> first | rfl | cases h
theorem eval_lc {elt : E} {tg : Tg} {k : IK} {ms : List E} {cd : Option E} : eval G C (.lc elt tg k ms cd) = lcE (itE G C k ms) (fun env m => noX (eval G C elt env m)) (fun env m => evalC G C cd env m) tg := by
  funext env m
  show ((evals G C ms env m).bind fun ds m => match itemsD m k ds with
    | none => R.stuck
    | some xs => (lcRun (fun env m => noX (eval G C elt env m)) (fun env m => evalC G C cd env m) tg (wipeT tg env) xs m).bind fun ys m => R.ok (D.lst ys) m) = ((evals G C ms env m).bind fun ds m => ofO (itemsD m k ds) m).bind fun xs m => (lcRun (fun env m => noX (eval G C elt env m)) (fun env m => evalC G C cd env m) tg (wipeT tg env) xs m).bind fun ys m => R.ok (D.lst ys) m
  cases evals G C ms env m with
  | ok ds m1 =>
    simp only [R.bind]
    cases itemsD m1 k ds <;> rfl
  | exc x m1 => rfl
  | stuck => rfl
mutual
theorem okE : ∀ (m : E) (e : Expr) (sc : Scope) (fc : Str → Bool), chkE P N m e sc fc = true → ∀ {X : Cx}, Cok Γ X N sc fc P G C → SE Γ X e (eval G C m)
  | .var i, e, sc, fc, h, X, c => by
    unfold chkE at h
    split at h
    · rename_i x pos
      obtain ⟨h, h3⟩ := and2 h
      obtain ⟨h1, h2⟩ := and2 h
      obtain ⟨n1, n2⟩ := nmB_iff h3
      exact se_var (by rw [c.n]; exact of_decide_eq_true h1) (by rw [c.sc]; exact visB_iff h2) n1 n2
    · cases h
  | .cst d, e, sc, fc, h, X, c => by
    unfold chkE at h
    split at h
    · obtain ⟨v, h1, h2⟩ := cst_ok (X := X) h
      exact se_cst h1 h2
    · cases h
  | .glb j, e, sc, fc, h, X, c => by
    unfold chkE at h
    split at h
    · rename_i x pos
      obtain ⟨h, h3⟩ := and2 h
      obtain ⟨h1, h2⟩ := and2 h
      obtain ⟨n1, n2⟩ := nmB_iff h3
      obtain ⟨u, v, d, g1, g2, g3, g4⟩ := c.gl x j (of_decide_eq_true h1)
      exact se_glb (pe_glob (c.gln h2) g1 g2 n1) g3 g4
    · cases h
  | .tup ms, e, sc, fc, h, X, c => by
    unfold chkE at h
    split at h
    · obtain ⟨h1, h2⟩ := and2 h
      exact se_tup (okEs ms _ sc fc h1 c).sa (of_decide_eq_true h2)
    · cases h
  | .lst ms, e, sc, fc, h, X, c => by
    unfold chkE at h
    split at h
    · obtain ⟨h1, h2⟩ := and2 h
      exact se_lst (okEs ms _ sc fc h1 c).sa (of_decide_eq_true h2)
    · cases h
  | .newl ms, e, sc, fc, h, X, c => by
    unfold chkE at h
    split at h
    · obtain ⟨h1, h2⟩ := and2 h
      exact se_newl (okEs ms _ sc fc h1 c).sa (of_decide_eq_true h2)
    · cases h
  | .dct ks ms, e, sc, fc, h, X, c => by
    unfold chkE at h
    split at h
    · obtain ⟨h, h5⟩ := and2 h
      obtain ⟨h, h4⟩ := and2 h
      obtain ⟨h, h3⟩ := and2 h
      obtain ⟨h1, h2⟩ := and2 h
      exact se_dct h1 (okEs ms _ sc fc h2 c) (of_decide_eq_true h3) (of_decide_eq_true h5) (of_decide_eq_true h4)
    · cases h
  | .newd ks ms, e, sc, fc, h, X, c => by
    unfold chkE at h
    split at h
    · obtain ⟨h, h5⟩ := and2 h
      obtain ⟨h, h4⟩ := and2 h
      obtain ⟨h, h3⟩ := and2 h
      obtain ⟨h1, h2⟩ := and2 h
      exact se_newd h1 (okEs ms _ sc fc h2 c) (of_decide_eq_true h3) (of_decide_eq_true h5) (of_decide_eq_true h4)
    · cases h
  | .cpd a, e, sc, fc, h, X, c => by
    unfold chkE at h
    split at h
    · obtain ⟨h, h3⟩ := and2 h
      obtain ⟨h1, h2⟩ := and2 h
      exact se_cpd (c.blt h1 boot_dic (by decide) (by decide)) h2 (okE a _ sc fc h3 c)
    · cases h
  | .bin o a b, e, sc, fc, h, X, c => by
    unfold chkE at h
    split at h
    · obtain ⟨h, h3⟩ := and2 h
      obtain ⟨h1, h2⟩ := and2 h
      exact se_bin (c.opOk h1) (okE a _ sc fc h2 c) (okE b _ sc fc h3 c)
    · cases h
  | .addl a b, e, sc, fc, h, X, c => by
    unfold chkE at h
    split at h
    · rename_i l op r _
      obtain ⟨h, h3⟩ := and2 h
      obtain ⟨h1, h2⟩ := and2 h
      cases op <;> first | (cases h1; done) | exact se_addl c.k (okE a _ sc fc h2 c) (okE b _ sc fc h3 c)
    · cases h
  | .cmp o a b, e, sc, fc, h, X, c => by
    unfold chkE at h
    split at h
    · obtain ⟨h, h4⟩ := and2 h
      obtain ⟨h, h3⟩ := and2 h
      obtain ⟨h1, h2⟩ := and2 h
      exact se_cmp (c.cmOk h1) (okE a _ sc fc h3 c) (okE b _ sc fc h4 c) (nomarks h2)
    · cases h
  | .chn o p a b d, e, sc, fc, h, X, c => by
    unfold chkE at h
    split at h
    · obtain ⟨h, h6⟩ := and2 h
      obtain ⟨h, h5⟩ := and2 h
      obtain ⟨h, h4⟩ := and2 h
      obtain ⟨h, h3⟩ := and2 h
      obtain ⟨h1, h2⟩ := and2 h
      exact se_chn (c.cmOk h1) (c.cmOk h2) h3 (okE a _ sc fc h4 c) (okE b _ sc fc h5 c) (okE d _ sc fc h6 c)
    · cases h
  | .bo k ms, e, sc, fc, h, X, c => by
    unfold chkE at h
    split at h
    · obtain ⟨h, h3⟩ := and2 h
      obtain ⟨h1, h2⟩ := and2 h
      exact se_bos h1 (okEs ms _ sc fc h2 c) (of_decide_eq_true h3)
    · cases h
  | .nt a, e, sc, fc, h, X, c => by
    unfold chkE at h
    split at h
    · exact se_nt (okE a _ sc fc h c)
    · cases h
  | .neg a, e, sc, fc, h, X, c => by
    unfold chkE at h
    split at h
    · exact se_neg (okE a _ sc fc h c)
    · cases h
  | .ite t a b, e, sc, fc, h, X, c => by
    unfold chkE at h
    split at h
    · obtain ⟨h, h3⟩ := and2 h
      obtain ⟨h1, h2⟩ := and2 h
      exact se_ite (okT t _ sc fc h1 c) (okE a _ sc fc h2 c) (okE b _ sc fc h3 c)
    · cases h
  | .call f ms, e, sc, fc, h, X, c => by
    unfold chkE at h
    split at h
    · rename_i x p1 es p2
      obtain ⟨h, h4⟩ := and2 h
      obtain ⟨h, h3⟩ := and2 h
      obtain ⟨h1, h2⟩ := and2 h
      have F : FnAt X Γ _ ms.length (C f) := ⟨(nmB_iff h3).1, c.gln h2, c.fn _ _ _ (of_decide_eq_true h1)⟩
      have hs := okEs ms _ sc fc h4 c
      cases ms with
      | nil =>
        cases hs
        exact se_call0 F
      | cons m ms =>
        cases es with
        | nil => cases hs
        | cons e es => exact se_call F hs
    · cases h
  | .bi f ms, e, sc, fc, h, X, c => by
    unfold chkE at h
    split at h
    · obtain ⟨h, h3⟩ := and2 h
      obtain ⟨h1, h2⟩ := and2 h
      have hs := okEs ms _ sc fc h2 c
      obtain ⟨e, es', rfl⟩ := hs.nonempty (of_decide_eq_true h3)
      rcases c.biOk f with ⟨id, b1, b2⟩ | ⟨id, b1, b2⟩
      · exact se_bi (c.blt h1 b1 (bN_nn f) (bN_nd f)) b2 hs
      · exact se_biT (c.blt h1 b1 (bN_nn f) (bN_nd f)) b2 hs
    · cases h
  | .isi a t, e, sc, fc, h, X, c => by
    unfold chkE at h
    split at h
    · obtain ⟨h, h4⟩ := and2 h
      obtain ⟨h, h3⟩ := and2 h
      obtain ⟨h1, h2⟩ := and2 h
      exact se_isi c.k (c.blt h1 boot_isi (by decide) (by decide)) (c.blt h2 (tN_boot t) (tN_nn t) (tN_nd t)) h3 (okE a _ sc fc h4 c)
    · cases h
  | .ix a i, e, sc, fc, h, X, c => by
    unfold chkE at h
    split at h
    · obtain ⟨h, h3⟩ := and2 h
      obtain ⟨h1, h2⟩ := and2 h
      exact se_ix c.k (Nat.lt_of_le_of_lt (Nat.add_le_add_left (by decide : 1 ≤ 65) _) c.u) h1 (okE a _ sc fc h2 c) (okE i _ sc fc h3 c)
    · cases h
  | .sl a lo hi, e, sc, fc, h, X, c => by
    unfold chkE at h
    split at h
    · obtain ⟨h, h3⟩ := and2 h
      obtain ⟨h1, h2⟩ := and2 h
      exact se_sl c.k (okE a _ sc fc h1 c) (okP lo _ sc fc h2 c) (okP hi _ sc fc h3 c)
    · cases h
  | .lc elt tg k ms cd, e, sc, fc, h, X, c => by
    unfold chkE at h
    split at h
    · rename_i el t iter ifs scope pos
      split at h
      · rename_i bs hb
        obtain ⟨h, h9⟩ := and2 h
        obtain ⟨h, h8⟩ := and2 h
        obtain ⟨h, h7⟩ := and2 h
        obtain ⟨h, h6⟩ := and2 h
        obtain ⟨h, h5⟩ := and2 h
        obtain ⟨h, h4⟩ := and2 h
        obtain ⟨h, h3⟩ := and2 h
        obtain ⟨h1, h2⟩ := and2 h
        rw [eval_lc]
        refine se_lc (own := ownOf N scope) (ev := itE G C k ms) (fe := fun env m => noX (eval G C elt env m)) (fc := fun env m => evalC G C cd env m) c.k c.nd c.calm ?_
        have ok : BlkOk X.N X.env.scope scope (ownOf N scope) := by
          rw [c.n, c.sc]
          exact blkOk_by h3
        refine ⟨it_ok c hb (okEs ms bs sc fc h1 c), ok, fun s H Ca cl fp => tgB_ok (c.blk (of_decide_eq_true h9) s H Ca cl fp) h4, fun s H Ca cl fp => okC cd _ _ _ h5 (c.blk (of_decide_eq_true h9) s H Ca cl fp), fun s H Ca cl fp => nox_el (okE elt _ _ _ h6 (c.blk (of_decide_eq_true h9) s H Ca cl fp) W0 takes0), fun env m x m' => noX_noexc x m', fun env m x m' => evalC_noexc env m x m', subB_iff h7, subB_iff h8, h2⟩
      · cases h
    · cases h
  | .mt f o ms, e, sc, fc, h, X, c => by
    unfold chkE at h
    split at h
    · obtain ⟨h, h6⟩ := and2 h
      obtain ⟨h, h5⟩ := and2 h
      obtain ⟨h, h4⟩ := and2 h
      obtain ⟨h, h3⟩ := and2 h
      obtain ⟨h1, h2⟩ := and2 h
      have ho := okE o _ sc fc h5 c
      have hs := okEs ms _ sc fc h6 c
      have en := of_decide_eq_true h1
      have el : ms.length = mA f := of_decide_eq_true h4
      have hu : X.A.units + 1 < cLine := Nat.lt_of_le_of_lt (Nat.add_le_add_left (by decide : 1 ≤ 65) _) c.u
      subst en
      cases f with
      | append =>
        match ms, el, hs with
        | [m], _, .cons p1 s1 .nil => exact se_append p1 h2 h3 ho s1
      | pop =>
        match ms, el, hs with
        | [], _, .nil => exact se_pop h2 h3 ho
      | get =>
        match ms, el, hs with
        | [m, n], _, .cons p1 s1 (.cons p2 s2 .nil) => exact se_get hu p1 p2 h2 h3 ho s1 s2
      | split =>
        match ms, el, hs with
        | [m], _, .cons p1 s1 .nil => exact se_split p1 h2 h3 ho s1
      | join =>
        match ms, el, hs with
        | [m], _, .cons p1 s1 .nil => exact se_join c.k p1 h2 h3 ho s1
    · cases h
  | .frz a, e, sc, fc, h, X, c => by
    unfold chkE at h
    obtain ⟨h1, h2⟩ := and2 h
    exact se_frz (okE a _ sc fc h2 c)
  | .cc i es, e, sc, fc, h, X, c => by
    unfold chkE at h
    split at h
    · obtain ⟨h, h4⟩ := and2 h
      obtain ⟨h, h3⟩ := and2 h
      obtain ⟨h1, h2⟩ := and2 h
      obtain ⟨n1, n2⟩ := nmB_iff h3
      have e4 := List.isEmpty_iff.mp h4
      subst e4
      exact se_cc0 c.k (by rw [c.n]; exact of_decide_eq_true h1) (by rw [c.sc]; exact visB_iff h2) n1 n2 c.ls
    · cases h
  | .clz f i caps, e, sc, fc, h, X, c => by
    unfold chkE at h
    split at h
    · obtain ⟨h, h4⟩ := and2 h
      obtain ⟨h, h3⟩ := and2 h
      obtain ⟨h1, h2⟩ := and2 h
      obtain ⟨lam, e1, M, L⟩ := lamB_ok c h4
      exact se_clz c.k ⟨(nmB_iff h3).1, c.gln h2, c.fn _ _ _ (of_decide_eq_true h1)⟩ M e1 L
    · cases h
  | .fld k x a, e, sc, fc, h, X, c => by
    unfold chkE at h
    split at h
    · obtain ⟨h, h5⟩ := and2 h
      obtain ⟨h, h4⟩ := and2 h
      obtain ⟨h, h3⟩ := and2 h
      obtain ⟨h1, h2⟩ := and2 h
      have e1 := of_decide_eq_true h1
      subst e1
      obtain ⟨a1, g1, c1⟩ := c.ob _ (of_decide_eq_true h3)
      obtain ⟨a2, g2, c2⟩ := c.ob _ (of_decide_eq_true h4)
      rw [g1] at g2
      cases g2
      exact se_fld g1 c1 c2 h2 (okE a _ sc fc h5 c)
    · cases h
  | .mth x k f o ms, e, sc, fc, h, X, c => by
    unfold chkE at h
    split at h
    · obtain ⟨h, h8⟩ := and2 h
      obtain ⟨h, h7⟩ := and2 h
      obtain ⟨h, h6⟩ := and2 h
      obtain ⟨h, h5⟩ := and2 h
      obtain ⟨h, h4⟩ := and2 h
      obtain ⟨h, h3⟩ := and2 h
      obtain ⟨h1, h2⟩ := and2 h
      have e1 := of_decide_eq_true h1
      subst e1
      obtain ⟨a1, g1, c1⟩ := c.ob _ (of_decide_eq_true h4)
      obtain ⟨a2, g2, fa, c2, c3⟩ := c.ob _ (of_decide_eq_true h5)
      rw [g1] at g2
      cases g2
      exact se_mth g1 c1 c2 c3 h2 h3 (of_decide_eq_true h6) (okE o _ sc fc h7 c) (okEs ms _ sc fc h8 c)
    · cases h
  | .ow1 w k f a, e, sc, fc, h, X, c => by
    unfold chkE at h
    split at h
    · obtain ⟨h, h5⟩ := and2 h
      obtain ⟨h, h4⟩ := and2 h
      obtain ⟨h, h3⟩ := and2 h
      obtain ⟨h1, h2⟩ := and2 h
      have e1 := of_decide_eq_true h1
      subst e1
      obtain ⟨a1, g1, c1⟩ := c.ob _ (of_decide_eq_true h3)
      obtain ⟨a2, g2, p, fa, c2, c3⟩ := c.ob _ (of_decide_eq_true h4)
      rw [g1] at g2
      cases g2
      exact se_prop g1 c1 c2 c3 h2 (okE a _ sc fc h5 c)
    · obtain ⟨h, h4⟩ := and2 h
      obtain ⟨h, h3⟩ := and2 h
      obtain ⟨h1, h2⟩ := and2 h
      obtain ⟨a1, g1, fa, c1, c2, c3⟩ := c.ob _ (of_decide_eq_true h3)
      exact se_leno g1 (c.blt h1 boot_len (by decide) (by decide)) c1 c2 c3 h2 (okE a _ sc fc h4 c)
    · cases h
  | .ow2 w k f a b, e, sc, fc, h, X, c => by
    unfold chkE at h
    split at h
    · obtain ⟨h, h4⟩ := and2 h
      obtain ⟨h, h3⟩ := and2 h
      obtain ⟨h1, h2⟩ := and2 h
      obtain ⟨a1, g1, fa, c1, c2, c3, c4⟩ := c.ob _ (of_decide_eq_true h2)
      exact se_geto g1 c1 c2 c3 c4 h1 (okE a _ sc fc h3 c) (okE b _ sc fc h4 c)
    · obtain ⟨h, h4⟩ := and2 h
      obtain ⟨h, h3⟩ := and2 h
      obtain ⟨h1, h2⟩ := and2 h
      obtain ⟨a1, g1, fa, c1, c2, c3⟩ := c.ob _ (of_decide_eq_true h2)
      exact se_eqo g1 c1 c2 c3 h1 (okE a _ sc fc h3 c) (okE b _ sc fc h4 c)
    · obtain ⟨h, h4⟩ := and2 h
      obtain ⟨h, h3⟩ := and2 h
      obtain ⟨h1, h2⟩ := and2 h
      have e1 := of_decide_eq_true h1
      subst e1
      obtain ⟨a1, g1, fa, c1, c2⟩ := c.ob _ (of_decide_eq_true h2)
      exact se_bino c.k g1 c1 c2 (okE a _ sc fc h3 c) (okE b _ sc fc h4 c)
    · rename_i x q i q2
      obtain ⟨h, h4⟩ := and2 h
      obtain ⟨h, h3⟩ := and2 h
      obtain ⟨h1, h2⟩ := and2 h
      obtain ⟨a1, g1, fa, c1, c2, c3, c4⟩ := c.ob _ (of_decide_eq_true h2)
      exact se_callo g1 c1 c2 c3 c4 h1 (okE a (.Name x q) sc fc h3 c) (okE b _ sc fc h4 c)
    · cases h
  | .gix x ys a, e, sc, fc, h, X, c => by
    unfold chkE at h
    split at h
    · obtain ⟨h, h8⟩ := and2 h
      obtain ⟨h, h7⟩ := and2 h
      obtain ⟨h, h6⟩ := and2 h
      obtain ⟨h, h5⟩ := and2 h
      obtain ⟨h, h4⟩ := and2 h
      obtain ⟨h, h3⟩ := and2 h
      obtain ⟨h1, h2⟩ := and2 h
      have e1 := of_decide_eq_true h1
      have e2 := of_decide_eq_true h2
      subst e1 e2
      exact se_gix (c.ob _ (of_decide_eq_true h6)) (c.gln h3) (nmB_iff h4).1 h7 h5 (okE a _ sc fc h8 c)
    · cases h
  | .isc k a, e, sc, fc, h, X, c => by
    unfold chkE at h
    split at h
    · obtain ⟨h, h6⟩ := and2 h
      obtain ⟨h, h5⟩ := and2 h
      obtain ⟨h, h4⟩ := and2 h
      obtain ⟨h, h3⟩ := and2 h
      obtain ⟨h1, h2⟩ := and2 h
      obtain ⟨a1, g1, c1, c2⟩ := c.ob _ (of_decide_eq_true h4)
      exact se_isc c.k g1 c1 (c.blt h1 boot_isi (by decide) (by decide)) (c.gln h2) c2 (nmB_iff h3).1 h5 (okE a _ sc fc h6 c)
    · cases h
  | .mkd x k f ms dfl, e, sc, fc, h, X, c => by
    unfold chkE at h
    split at h
    · obtain ⟨h, h6⟩ := and2 h
      obtain ⟨h, h5⟩ := and2 h
      obtain ⟨h, h4⟩ := and2 h
      obtain ⟨h, h3⟩ := and2 h
      obtain ⟨h1, h2⟩ := and2 h
      have e1 := of_decide_eq_true h1
      subst e1
      obtain ⟨a1, g1, fa, c1, c2, c3⟩ := c.ob _ (of_decide_eq_true h4)
      have hs := okEs ms _ sc fc h6 c
      obtain ⟨e0, es', rfl⟩ := hs.nonempty (of_decide_eq_true h5)
      exact se_mkd g1 c1 (c.gln h2) c2 (nmB_iff h3).1 c3 hs
    · cases h
  | .mkv i x k f ms, e, sc, fc, h, X, c => by
    unfold chkE at h
    split at h
    · obtain ⟨h, h6⟩ := and2 h
      obtain ⟨h, h5⟩ := and2 h
      obtain ⟨h, h4⟩ := and2 h
      obtain ⟨h, h3⟩ := and2 h
      obtain ⟨h1, h2⟩ := and2 h
      obtain ⟨a1, g1, fa, c1, c2, c3⟩ := c.ob _ (of_decide_eq_true h4)
      have hs := okEs ms _ sc fc h6 c
      obtain ⟨e0, es', rfl⟩ := hs.nonempty (of_decide_eq_true h5)
      exact se_mkv g1 c1 (by rw [c.n]; exact of_decide_eq_true h1) (by rw [c.sc]; exact visB_iff h2) (nmB_iff h3).1 (nmB_iff h3).2 c3 hs
    · cases h
  | .cmt q x k f ms, e, sc, fc, h, X, c => by
    unfold chkE at h
    split at h
    · obtain ⟨h, h9⟩ := and2 h
      obtain ⟨h, h8⟩ := and2 h
      obtain ⟨h, h7⟩ := and2 h
      obtain ⟨h, h6⟩ := and2 h
      obtain ⟨h, h5⟩ := and2 h
      obtain ⟨h, h4⟩ := and2 h
      obtain ⟨h, h3⟩ := and2 h
      obtain ⟨h1, h2⟩ := and2 h
      have e1 := of_decide_eq_true h1
      have e2 := of_decide_eq_true h2
      subst e1 e2
      obtain ⟨a1, g1, mc, pp, fa, c1, c2, c3, c4⟩ := c.ob _ (of_decide_eq_true h6)
      have hs := okEs ms _ sc fc h9 c
      obtain ⟨e0, es', rfl⟩ := hs.nonempty (of_decide_eq_true h8)
      exact se_cmt g1 c1 c2 (c.gln h3) c3 (nmB_iff h4).1 c4 h5 (of_decide_eq_true h7) hs
    · cases h
  | .eqn a, e, sc, fc, h, X, c => by
    unfold chkE at h
    split at h
    · rename_i l lp pos
      exact se_eqn c.k (Nat.lt_of_le_of_lt (Nat.add_le_add_left (by decide : 64 ≤ 65) _) c.u) (okE a _ sc fc h c) (se_lst (SEs.nil (Γ := Γ) (X := X) (G := G) (C := C)).sa (Nat.zero_le _))
    · cases h
  | .mk k f ms, e, sc, fc, h, X, c => by
    unfold chkE at h
    split at h
    · obtain ⟨h, h5⟩ := and2 h
      obtain ⟨h, h4⟩ := and2 h
      obtain ⟨h, h3⟩ := and2 h
      obtain ⟨h1, h2⟩ := and2 h
      obtain ⟨a1, g1, fa, c1, c2, c3⟩ := c.ob _ (of_decide_eq_true h3)
      have hs := okEs ms _ sc fc h5 c
      obtain ⟨e0, es', rfl⟩ := hs.nonempty (of_decide_eq_true h4)
      exact se_mk g1 c1 (c.gln h1) c2 (nmB_iff h2).1 c3 hs
    · cases h
theorem okT : ∀ (m : E) (e : Expr) (sc : Scope) (fc : Str → Bool), chkE P N m e sc fc = true → ∀ {X : Cx}, Cok Γ X N sc fc P G C → ST Γ X e (fun env m' => test (eval G C m env m'))
  | .cmp o a b, e, sc, fc, h, X, c => by
    unfold chkE at h
    split at h
    · obtain ⟨h, h4⟩ := and2 h
      obtain ⟨h, h3⟩ := and2 h
      obtain ⟨h1, h2⟩ := and2 h
      exact st_cmp (c.cmOk h1) (fun m x y d e => by
        obtain ⟨k, _, e2⟩ := Option.map_eq_some_iff.mp e
        exact ⟨k, e2.symm⟩) (okE a _ sc fc h3 c) (okE b _ sc fc h4 c) (nomarks h2)
    · cases h
  | .chn o p a b d, e, sc, fc, h, X, c => by
    unfold chkE at h
    split at h
    · obtain ⟨h, h6⟩ := and2 h
      obtain ⟨h, h5⟩ := and2 h
      obtain ⟨h, h4⟩ := and2 h
      obtain ⟨h, h3⟩ := and2 h
      obtain ⟨h1, h2⟩ := and2 h
      exact st_chn (c.cmOk h1) (c.cmOk h2) h3 (okE a _ sc fc h4 c) (okE b _ sc fc h5 c) (okE d _ sc fc h6 c)
    · cases h
  | .bo k ms, e, sc, fc, h, X, c => by
    unfold chkE at h
    split at h
    · obtain ⟨h, h3⟩ := and2 h
      obtain ⟨h1, h2⟩ := and2 h
      exact (sw_bos h1 (okTs ms _ sc fc h2 c) (of_decide_eq_true h3)).st
    · cases h
  | .nt a, e, sc, fc, h, X, c => by
    unfold chkE at h
    split at h
    · exact st_not (okT a _ sc fc h c)
    · cases h
  | .ite t a b, e, sc, fc, h, X, c => by
    unfold chkE at h
    split at h
    · obtain ⟨h, h3⟩ := and2 h
      obtain ⟨h1, h2⟩ := and2 h
      exact st_if (okT t _ sc fc h1 c) (okT a _ sc fc h2 c) (okT b _ sc fc h3 c)
    · cases h
  | .var i, e, sc, fc, h, X, c => st_plain c.k (okE (.var i) e sc fc h c) (truthy_plain (by
      unfold chkE at h
      split at h <;> first | rfl | cases h) _)
  | .cst i, e, sc, fc, h, X, c => st_plain c.k (okE (.cst i) e sc fc h c) (truthy_plain (by
      unfold chkE at h
      split at h <;> first | rfl | cases h) _)
  | .glb i, e, sc, fc, h, X, c => st_plain c.k (okE (.glb i) e sc fc h c) (truthy_plain (by
      unfold chkE at h
      split at h <;> first | rfl | cases h) _)
  | .tup i, e, sc, fc, h, X, c => st_plain c.k (okE (.tup i) e sc fc h c) (truthy_plain (by
      unfold chkE at h
      split at h <;> first | rfl | cases h) _)
  | .lst i, e, sc, fc, h, X, c => st_plain c.k (okE (.lst i) e sc fc h c) (truthy_plain (by
      unfold chkE at h
      split at h <;> first | rfl | cases h) _)
  | .newl i, e, sc, fc, h, X, c => st_plain c.k (okE (.newl i) e sc fc h c) (truthy_plain (by
      unfold chkE at h
      split at h <;> first | rfl | cases h) _)
  | .dct i j, e, sc, fc, h, X, c => st_plain c.k (okE (.dct i j) e sc fc h c) (truthy_plain (by
      unfold chkE at h
      split at h <;> first | rfl | cases h) _)
  | .newd i j, e, sc, fc, h, X, c => st_plain c.k (okE (.newd i j) e sc fc h c) (truthy_plain (by
      unfold chkE at h
      split at h <;> first | rfl | cases h) _)
  | .cpd i, e, sc, fc, h, X, c => st_plain c.k (okE (.cpd i) e sc fc h c) (truthy_plain (by
      unfold chkE at h
      split at h <;> first | rfl | cases h) _)
  | .bin o i j, e, sc, fc, h, X, c => st_plain c.k (okE (.bin o i j) e sc fc h c) (truthy_plain (by
      unfold chkE at h
      split at h <;> first | rfl | cases h) _)
  | .addl i j, e, sc, fc, h, X, c => st_plain c.k (okE (.addl i j) e sc fc h c) (truthy_plain (by
      unfold chkE at h
      split at h <;> first | rfl | cases h) _)
  | .neg i, e, sc, fc, h, X, c => st_plain c.k (okE (.neg i) e sc fc h c) (truthy_plain (by
      unfold chkE at h
      split at h <;> first | rfl | cases h) _)
  | .call i j, e, sc, fc, h, X, c => st_plain c.k (okE (.call i j) e sc fc h c) (truthy_plain (by
      unfold chkE at h
      split at h <;> first | rfl | cases h) _)
  | .bi i j, e, sc, fc, h, X, c => st_plain c.k (okE (.bi i j) e sc fc h c) (truthy_plain (by
      unfold chkE at h
      split at h <;> first | rfl | cases h) _)
  | .isi i j, e, sc, fc, h, X, c => st_plain c.k (okE (.isi i j) e sc fc h c) (truthy_plain (by
      unfold chkE at h
      split at h <;> first | rfl | cases h) _)
  | .ix i j, e, sc, fc, h, X, c => st_plain c.k (okE (.ix i j) e sc fc h c) (truthy_plain (by
      unfold chkE at h
      split at h <;> first | rfl | cases h) _)
  | .sl i j k, e, sc, fc, h, X, c => st_plain c.k (okE (.sl i j k) e sc fc h c) (truthy_plain (by
      unfold chkE at h
      split at h <;> first | rfl | cases h) _)
  | .lc i j k l m, e, sc, fc, h, X, c => st_plain c.k (okE (.lc i j k l m) e sc fc h c) (truthy_plain (by
      unfold chkE at h
      split at h <;> first | rfl | cases h) _)
  | .mt i j k, e, sc, fc, h, X, c => st_plain c.k (okE (.mt i j k) e sc fc h c) (truthy_plain (by
      unfold chkE at h
      split at h <;> first | rfl | cases h) _)
  | .cc i j, e, sc, fc, h, X, c => st_plain c.k (okE (.cc i j) e sc fc h c) (truthy_plain (by
      unfold chkE at h
      split at h <;> first | rfl | cases h) _)
  | .clz i j k, e, sc, fc, h, X, c => st_plain c.k (okE (.clz i j k) e sc fc h c) (truthy_plain (by
      unfold chkE at h
      split at h <;> first | rfl | cases h) _)
  | .frz i, e, sc, fc, h, X, c => st_plain c.k (okE (.frz i) e sc fc h c) (truthy_plain (by
      unfold chkE at h
      have h1 := (and2 h).1
      cases e <;> first | rfl | cases h1) _)
  | .fld i j k, e, sc, fc, h, X, c => st_plain c.k (okE (.fld i j k) e sc fc h c) (truthy_plain (by
      unfold chkE at h
      split at h <;> first | rfl | cases h) _)
  | .mth i j k l m, e, sc, fc, h, X, c => st_plain c.k (okE (.mth i j k l m) e sc fc h c) (truthy_plain (by
      unfold chkE at h
      split at h <;> first | rfl | cases h) _)
  | .ow1 i j k l, e, sc, fc, h, X, c => st_plain c.k (okE (.ow1 i j k l) e sc fc h c) (truthy_plain (by
      unfold chkE at h
      split at h <;> first | rfl | cases h) _)
  | .gix i j k, e, sc, fc, h, X, c => st_plain c.k (okE (.gix i j k) e sc fc h c) (truthy_plain (by
      unfold chkE at h
      split at h <;> first | rfl | cases h) _)
  | .isc i j, e, sc, fc, h, X, c => st_plain c.k (okE (.isc i j) e sc fc h c) (truthy_plain (by
      unfold chkE at h
      split at h <;> first | rfl | cases h) _)
  | .mkd i j k l m, e, sc, fc, h, X, c => st_plain c.k (okE (.mkd i j k l m) e sc fc h c) (truthy_plain (by
      unfold chkE at h
      split at h <;> first | rfl | cases h) _)
  | .mkv i j k l m, e, sc, fc, h, X, c => st_plain c.k (okE (.mkv i j k l m) e sc fc h c) (truthy_plain (by
      unfold chkE at h
      split at h <;> first | rfl | cases h) _)
  | .cmt i j k l m, e, sc, fc, h, X, c => st_plain c.k (okE (.cmt i j k l m) e sc fc h c) (truthy_plain (by
      unfold chkE at h
      split at h <;> first | rfl | cases h) _)
  | .eqn a, e, sc, fc, h, X, c => by
    unfold chkE at h
    split at h
    · rename_i l lp pos
      exact st_eqn c.k (Nat.lt_of_le_of_lt (Nat.add_le_add_left (by decide : 64 ≤ 65) _) c.u) (okE a _ sc fc h c) (se_lst (SEs.nil (Γ := Γ) (X := X) (G := G) (C := C)).sa (Nat.zero_le _))
    · cases h
  | .mk i j k, e, sc, fc, h, X, c => st_plain c.k (okE (.mk i j k) e sc fc h c) (truthy_plain (by
      unfold chkE at h
      split at h <;> first | rfl | cases h) _)
  | .ow2 w k f a b, e, sc, fc, h, X, c => by
    have base := okE (.ow2 w k f a b) e sc fc h c
    unfold chkE at h
    split at h
    · exact st_plain c.k base (truthy_plain rfl _)
    · obtain ⟨h, h4⟩ := and2 h
      obtain ⟨h, h3⟩ := and2 h
      obtain ⟨h1, h2⟩ := and2 h
      obtain ⟨a1, g1, fa, c1, c2, c3⟩ := c.ob _ (of_decide_eq_true h2)
      exact st_eqo g1 c1 c2 c3 h1 (okE a _ sc fc h3 c) (okE b _ sc fc h4 c)
    · exact st_plain c.k base (truthy_plain rfl _)
    · exact st_plain c.k base (truthy_plain rfl _)
    · cases h
theorem okEs : ∀ (ms : List E) (es : List Expr) (sc : Scope) (fc : Str → Bool), chkEs P N ms es sc fc = true → ∀ {X : Cx}, Cok Γ X N sc fc P G C → SEs Γ X G C es ms
  | [], es, sc, fc, h, X, c => by
    unfold chkEs at h
    split at h
    · exact .nil
    · cases h
  | m :: ms, es, sc, fc, h, X, c => by
    unfold chkEs at h
    split at h
    · obtain ⟨h, h3⟩ := and2 h
      obtain ⟨h1, h2⟩ := and2 h
      exact .cons h1 (okE m _ sc fc h2 c) (okEs ms _ sc fc h3 c)
    · cases h
theorem okTs : ∀ (ms : List E) (es : List Expr) (sc : Scope) (fc : Str → Bool), chkEs P N ms es sc fc = true → ∀ {X : Cx}, Cok Γ X N sc fc P G C → STs Γ X G C es ms
  | [], es, sc, fc, h, X, c => by
    unfold chkEs at h
    split at h
    · exact .nil
    · cases h
  | m :: ms, es, sc, fc, h, X, c => by
    unfold chkEs at h
    split at h
    · obtain ⟨h, h3⟩ := and2 h
      obtain ⟨h1, h2⟩ := and2 h
      exact .cons (okT m _ sc fc h2 c) (okTs ms _ sc fc h3 c)
    · cases h
theorem okP : ∀ (o : Option E) (e : Option Expr) (sc : Scope) (fc : Str → Bool), chkP P N o e sc fc = true → ∀ {X : Cx}, Cok Γ X N sc fc P G C → SP Γ X e (evalP G C o)
  | none, e, sc, fc, h, X, c => by
    unfold chkP at h
    split at h
    · exact sp_none
    · cases h
  | some m, e, sc, fc, h, X, c => by
    unfold chkP at h
    split at h
    · exact sp_some (okE m _ sc fc h c)
    · cases h
theorem okC : ∀ (o : Option E) (es : List Expr) (sc : Scope) (fc : Str → Bool), chkC P N o es sc fc = true → ∀ {X : Cx}, Cok Γ X N sc fc P G C → PTs X es (tT Γ W0 (fun env m => evalC G C o env m))
  | none, es, sc, fc, h, X, c => by
    unfold chkC at h
    split at h
    · exact cond_none
    · cases h
  | some m, es, sc, fc, h, X, c => by
    unfold chkC at h
    split at h
    · rename_i x
      exact cond_some (okT m x sc fc h c W0 takes0)
    · cases h
end
end
end Mi
/-! Mini: later cells are cut off. -/
namespace Mi
open PySem PySem.Spec PyProof.Rows L2
variable [Glb]
section
variable {K : PySem.W.Frag} {H : Hp} {L L' : Addr → Prop} {loc loc' : Loc} {n : Nat}
mutual
theorem Rep.cut (hL : ∀ a, L' a → L a) (hl : ∀ (k : Nat) (a : Addr), k < n → loc.l[k]? = some a → loc'.l[k]? = some a) : ∀ {v : V} {d : D}, Rep K H L loc v d → below n d = true → Rep K H L' loc' v d
  | _, _, .non, _ => .non
  | _, _, .bl b, _ => .bl b
  | _, _, .int i, _ => .int i
  | _, _, .str s, _ => .str s
  | _, _, .tup h z r, b => .tup (h.imp (fun h => ⟨h.1, fun l => h.2 (hL _ l)⟩) id) z (Reps.cut hL hl r b)
  | _, _, .lst h n z r, b => .lst h (fun l => n (hL _ l)) z (Reps.cut hL hl r b)
  | _, _, .dic h n r, b => .dic h (fun l => n (hL _ l)) (RepK.cut hL hl r b)
  | _, _, .scr h z, _ => .scr (h.imp (fun h => ⟨h.1, fun l => h.2 (hL _ l)⟩) id) z
  | _, _, .ref h, b => .ref (hl _ _ (of_decide_eq_true b) h)
  | _, _, .cls h, _ => .cls h
theorem Reps.cut (hL : ∀ a, L' a → L a) (hl : ∀ (k : Nat) (a : Addr), k < n → loc.l[k]? = some a → loc'.l[k]? = some a) : ∀ {vs : List V} {ds : List D}, Reps K H L loc vs ds → belowA n ds = true → Reps K H L' loc' vs ds
  | _, _, .nil, _ => .nil
  | _, _, .cons r t, b => .cons (Rep.cut hL hl r (and2 b).1) (Reps.cut hL hl t (and2 b).2)
theorem RepK.cut (hL : ∀ a, L' a → L a) (hl : ∀ (k : Nat) (a : Addr), k < n → loc.l[k]? = some a → loc'.l[k]? = some a) : ∀ {vs : List (Key × V)} {ds : List (Key × D)}, RepK K H L loc vs ds → belowK n ds = true → RepK K H L' loc' vs ds
  | _, _, .nil, _ => .nil
  | _, _, .cons r t, b => .cons (Rep.cut hL hl r (and2 b).1) (RepK.cut hL hl t (and2 b).2)
end
end
theorem CapR.cut {K : PySem.W.Frag} {H : Hp} {L L' : Addr → Prop} {loc loc' : Loc} {n : Nat} {cl : List (Str × Addr)} {b : Bool} (hL : ∀ a, L' a → L a) (hl : ∀ (k : Nat) (a : Addr), k < n → loc.l[k]? = some a → loc'.l[k]? = some a) (hx : loc'.f = loc.f) (hs : ∀ a ∈ loc'.l, a ∈ loc.l) : ∀ {ys : List Str} {ds : List D}, CapR K H L loc cl b ys ds → belowA n ds = true → CapR K H L' loc' cl b ys ds
  | [], [], _, _ => True.intro
  | [], _ :: _, h, _ => h.elim
  | _ :: _, [], h, _ => h.elim
  | y :: ys, d :: ds, ⟨⟨c, oc, u, v, h1, h2, h3, h4, h5, h6, h7⟩, t⟩, hb => ⟨⟨c, oc, u, v, h1, h2, ⟨fun l => h3.1 (hL _ l), fun z => h3.2 (hs _ z)⟩, fun e => by rw [hx]; exact h4 e, h5, h6, h7.cut hL hl (and2 hb).1⟩, CapR.cut hL hl hx hs t (and2 hb).2⟩
theorem RepF.cut {K : PySem.W.Frag} {H : Hp} {L L' : Addr → Prop} {loc loc' : Loc} {n : Nat} (hL : ∀ a, L' a → L a) (hl : ∀ (k : Nat) (a : Addr), k < n → loc.l[k]? = some a → loc'.l[k]? = some a) : ∀ {vs : List (Str × V)} {ds : List (Str × D)}, RepF K H L loc vs ds → belowA n (ds.map (·.2)) = true → RepF K H L' loc' vs ds
  | [], [], _, _ => True.intro
  | [], _ :: _, h, _ => h.elim
  | _ :: _, [], h, _ => h.elim
  | (_, _) :: vs, (_, _) :: ds, ⟨h1, h2, t⟩, hb => ⟨h1, h2.cut hL hl (and2 hb).1, RepF.cut hL hl t (and2 hb).2⟩
theorem take_at {α : Type} {l : List α} {n k : Nat} {a : α} (h : (l.take n)[k]? = some a) : k < n ∧ l[k]? = some a := by
  rw [List.getElem?_take] at h
  split at h
  · rename_i q
    exact ⟨q, h⟩
  · cases h
/-- the later cells cut off -/
theorem cut_st {K : PySem.W.Frag} {H H' : Hp} {m m' : MH} {loc loc' : Loc} (s0 : loc.l.length = m.length) (s : Sim K H' m' loc') (k : KpM H m loc H' m' loc') (h1 : ¬ m'.length ≤ m.length) (b2 : (m'.take m.length).all (belowC m.length) = true) :
    ∃ l2, Sim K H' (m'.take m.length) l2 ∧ KpM H m loc H' (m'.take m.length) l2 ∧ ∀ {v : V} {d : D}, below m.length d = true → RepM K H' m' loc' v d → RepM K H' (m'.take m.length) l2 v d := by
  have b3 : ∀ c ∈ m'.take m.length, belowC m.length c = true := List.all_eq_true.mp b2
  obtain ⟨x, e⟩ := k.pre
  have el : loc'.l.take m.length = loc.l := by rw [e, ← s0, List.take_left]
  have hle : m.length ≤ m'.length := by omega
  have hL : ∀ a, Live (m'.take m.length) ⟨loc'.l.take m.length, loc'.f⟩ a → Live m' loc' a := fun a l => by
    rcases l with ⟨i, c, e1, nd, e2⟩ | l
    · exact .inl ⟨i, c, (take_at e1).2, nd, (take_at e2).2⟩
    · exact .inr l
  have hl : ∀ (i : Nat) (a : Addr), i < m.length → loc'.l[i]? = some a → (loc'.l.take m.length)[i]? = some a := fun i a hi h => by
    rw [List.getElem?_take, if_pos hi]
    exact h
  refine ⟨⟨loc'.l.take m.length, loc'.f⟩, ⟨?_, ?_, fun a h => ?_, s.hid, fun a h => s.apart a (List.mem_of_mem_take h), s.tab, s.xs, s.fi, s.hk, fun i c a h1 h2 => ?_⟩, ⟨⟨[], by show loc'.l.take m.length = _; rw [el, List.append_nil]⟩, k.fx, k.hide, fun a o h1 h2 => ?_, fun a h => ?_, k.there⟩, fun b1 r => r.cut hL hl b1⟩
  · show (loc'.l.take m.length).length = _
    rw [List.length_take, List.length_take, s.len]
  · exact s.nd.sublist (List.take_sublist _ _)
  · exact s.old a (List.mem_of_mem_take h)
  · obtain ⟨hi, h1'⟩ := take_at h1
    have b := b3 c (List.mem_of_getElem? h1)
    have q := s.cell i c a h1' (take_at h2).2
    cases c with
    | lst ds =>
      obtain ⟨vs, q1, q2, q3⟩ := q
      exact ⟨vs, q1, q2, q3.cut hL hl b⟩
    | dic ds =>
      obtain ⟨vs, q1, q3⟩ := q
      exact ⟨vs, q1, q3.cut hL hl b⟩
    | clo i ds b' =>
      have q : CloR K H' (Live m' loc') loc' a i ds b' := q
      obtain ⟨lam, cl, pm, ctv, c', g1, g2, g3, g4, g5, g6, g7, g8, g9⟩ := q.ex
      exact CloR.mk ⟨lam, cl, pm, ctv, c', g1, g2, g3, fun l => g4 (hL _ l), g5, g6, g7, g8, CapR.cut hL hl (by rfl) (fun a h => List.mem_of_mem_take h) g9 b⟩
    | ins n fs =>
      obtain ⟨C, dx, vs, q1, q2, q3⟩ := q
      exact ⟨C, dx, vs, q1, q2, q3.cut hL hl b⟩
    | dead => exact True.intro
  · obtain ⟨a1, a2⟩ := k.keep a o h1 h2
    exact ⟨a1, fun l => a2 (hL _ l)⟩
  · have h : a ∈ loc'.l.take m.length := h
    rw [el] at h
    exact .inl h
/-- what a def leaves behind, its own cells cut off -/
theorem cut_ok {K : PySem.W.Frag} {H H' : Hp} {m m' : MH} {loc loc' : Loc} {v : V} {d : D} (s0 : loc.l.length = m.length) (s : Sim K H' m' loc') (k : KpM H m loc H' m' loc') (r : RepM K H' m' loc' v d) :
    ∃ l2, Sim K H' (cutM m.length d m') l2 ∧ KpM H m loc H' (cutM m.length d m') l2 ∧ RepM K H' (cutM m.length d m') l2 v d := by
  unfold cutM
  split
  · exact ⟨loc', s, k, r⟩
  · split
    · rename_i h1 h2
      obtain ⟨b1, b2⟩ := and2 h2
      obtain ⟨l2, x1, x2, x3⟩ := cut_st s0 s k h1 b2
      exact ⟨l2, x1, x2, x3 b1 r⟩
    · exact ⟨loc', s, k, r⟩
theorem EnvR.sw {K : PySem.W.Frag} {H : Hp} {L L' : Addr → Prop} {loc loc' : Loc} {n : Nat} {σ : L2.St} {env : Env} (e : EnvR K H L loc σ env) (h : ∀ {v : V} {d : D}, below n d = true → Rep K H L loc v d → Rep K H L' loc' v d) : EnvR K H L' loc' σ (swE n env) := by
  refine ⟨by unfold swE; rw [List.length_map]; exact e.len, fun i d q => ?_⟩
  unfold swE at q
  rw [List.getElem?_map] at q
  obtain ⟨o, h1, h2⟩ := Option.map_eq_some_iff.mp q
  cases o with
  | none => cases h2
  | some d' =>
    have h2 : (if below n d' then some d' else none) = some d := h2
    split at h2
    · rename_i hb
      cases h2
      obtain ⟨v, g1, g2⟩ := e.at_ i d h1
      exact ⟨v, g1, h hb g2⟩
    · cases h2
section
variable {Γ : Gam} {X : Cx} {b : List Stmt} {ex : Env → MH → Mi.X}
/-- behind a suite its cells are forgotten -/
theorem sss_sw (h : SSs Γ X b ex) : SSs Γ X b (fun env m => swX m.length (ex env m)) := fun W tk => wkSs (h W tk) fun D σ H ⟨env, m, loc, A, p⟩ => by
  refine ⟨env, m, loc, A, ?_⟩
  dsimp only at p
  cases e : ex env m with
  | none =>
    rw [e] at p
    exact p
  | some q =>
    obtain ⟨f, m1⟩ := q
    rw [e] at p
    cases f with
    | nx e1 =>
      have p : PoS Γ W H m loc (if m1.length ≤ m.length then some (.nx e1, m1) else if (m1.take m.length).all (belowC m.length) then some (.nx (swE m.length e1), m1.take m.length) else some (.nx e1, m1)) D := p
      split at p
      · exact p
      · rename_i h1
        split at p
        · rename_i h2
          intro σ' H' loc' s' k' r'
          obtain ⟨l2, x1, x2, x3⟩ := cut_st A.1.len s' k' h1 h2
          exact p σ' H' l2 x1 x2 (r'.sw fun hb r => x3 hb r)
        · exact p
    | bk e1 => exact p
    | ct e1 => exact p
    | rt d => exact p
    | ex x e1 => exact p
end
end Mi
/-! Mini: iterators and comprehensions while an exception is handled. -/
namespace Mi
open PySem PySem.Spec PyProof.Rows L2 HotX L2H
section
variable {prog : Program} {w : World} {A : Around} {E : Value → Shared → Prop} {s : Shared}
/-- the handled exception's object, its context None -/
abbrev XcAt (h : Heap) (x1 : Addr) : Prop := ∃ (o : Obj) (vs : Array Value), h.get? x1 = some o ∧ o.data = .fields vs ∧ vs[2]? = some .none
theorem lst_end_hot {it l x1 : Addr} {i : Nat} {items : Array Value} {Q : Value → Shared → Prop} (hh : A.handled = some (.ref x1)) (xc : XcAt s.heap x1) (nx : x1 ≠ it) (hit : s.heap.IsListIter it l i) (hl : s.heap.IsList l items) (hx : items[i]? = none)
    (hE : ∀ h' e, Heap.ExtBut it s.heap h' → (∃ o, h'.get? e = some o ∧ o.cls = .type "StopIteration") → E (.ref e) { s with heap := h' }) : wpAny (model prog w) A (Builtin.SmallTypes.nextOf (.ref it)) Q E s := by
  have hT := hit.typeIs
  obtain ⟨oi, gi, ci, di⟩ := hit
  obtain ⟨ol, gl, cl, nl, dl⟩ := hl
  obtain ⟨ox, vx, gx, dx, kx⟩ := xc
  unfold Builtin.SmallTypes.nextOf
  refine wpAny_bind (wpAny_callSpecial?_slot (name := Str.ofString "__next__") hT slot_listiter_next (wpAny_call_entry slot_listiter_next hT entry_listiter_next ?_ (args_listiter_next _)))
  show wpAny _ _ (field (.ref it) 0 >>= _) _ _ s
  refine wpAny_bind (wpAny_field gi di (x := .ref l) rfl ?_)
  show wpAny _ _ (if (Value.ref l == Value.none) = true then _ else _) _ _ s
  have nn : ¬ ((Value.ref l == Value.none) = true) := Bool.false_ne_true
  rw [if_neg nn]
  show wpAny _ _ (field (.ref it) 1 >>= _) _ _ s
  refine wpAny_bind (wpAny_field gi di (x := .int i 0) rfl ?_)
  show wpAny _ _ (seqItems? (.ref l) >>= _) _ _ s
  refine wpAny_bind (wpAny_seqItems gl dl ?_)
  simp only [Int.toNat_natCast, hx]
  refine wpAny_bind (wpAny_rule (wpAny_bind (wpAny_setField gi di (by simp) ?_)))
  show wpAny _ _ (newExc (.type "StopIteration") [] >>= _) _ _ _
  refine wpAny_bind ?_
  simp only [newExc, newTuple]
  refine wpAny_bind (wpAny_newObj_type ?_ (by size_fits))
  refine wpAny_bind (m := firstArgMember _ _) (wpAny_of_eq (a := Value.none) (by first | rfl | (simp only [firstArgMember]; rfl)) ?_)
  refine wpAny_newObj_type ?_ (by size_fits)
  have gx2 := Heap.get?_push_of_some { cls := .type "tuple", data := .seq #[] } ((Heap.SameBut.update (h := s.heap) (a := it) (f := Obj.mapFields (·.setIfInBounds 0 .none))).extBut x1 ox nx gx)
  refine raiseNew_hot ⟨hh, ox, vx, Heap.get?_push_of_some _ gx2, dx, kx⟩ (Nat.ne_of_lt (Heap.lt_size gx2)) (Heap.get?_push_size _ rfl) rfl (by first | (simp; done) | (simp; omega)) ?_
  refine hE _ _ (fun b o nb e => ?_) ⟨_, Heap.get?_update_self _ (Heap.get?_push_size _ rfl) rfl, rfl⟩
  have e2 := Heap.get?_push_of_some { cls := .type "tuple", data := .seq #[] } ((Heap.SameBut.update (h := s.heap) (a := it) (f := Obj.mapFields (·.setIfInBounds 0 .none))).extBut b o nb e)
  rw [Heap.get?_update_other _ _ (Nat.ne_of_gt (Heap.lt_size e2))]
  exact Heap.get?_push_of_some _ e2
theorem tup_end_hot {it t x1 : Addr} {i : Nat} {items : Array Value} {Q : Option Value → Shared → Prop} (hh : A.handled = some (.ref x1)) (xc : XcAt s.heap x1) (nx : x1 ≠ it) (hit : IsTupIter s.heap it t i) (ht : IsTup s.heap t items) (hx : items[i]? = none)
    (hQ : ∀ h', Heap.ExtBut it s.heap h' → Q none { s with heap := h' }) : wpAny (model prog w) A (pyNext (.ref it)) Q E s := by
  have hT := hit.typeIs
  obtain ⟨oi, gi, ci, di⟩ := hit
  obtain ⟨ol, gl, cl, nl, dl⟩ := ht
  obtain ⟨ox, vx, gx, dx, kx⟩ := xc
  unfold pyNext
  refine wpAny_bind (wpAny_attempt (wpAny_callSpecial?_slot (name := Str.ofString "__next__") hT slot_tupleiter_next (wpAny_call_entry slot_tupleiter_next hT entry_tupleiter_next ?_ (args_tupleiter_next _))))
  show wpAny _ _ (field (.ref it) 0 >>= _) _ _ s
  refine wpAny_bind (wpAny_field gi di (x := .ref t) rfl ?_)
  show wpAny _ _ (if (Value.ref t == Value.none) = true then _ else _) _ _ s
  have nn : ¬ ((Value.ref t == Value.none) = true) := Bool.false_ne_true
  rw [if_neg nn]
  show wpAny _ _ (field (.ref it) 1 >>= _) _ _ s
  refine wpAny_bind (wpAny_field gi di (x := .int i 0) rfl ?_)
  show wpAny _ _ (seqItems? (.ref t) >>= _) _ _ s
  refine wpAny_bind (wpAny_seqItems gl dl ?_)
  simp only [Int.toNat_natCast, hx]
  refine wpAny_bind (wpAny_rule (wpAny_bind (wpAny_setField gi di (by simp) ?_)))
  show wpAny _ _ (newExc (.type "StopIteration") [] >>= _) _ _ _
  refine wpAny_bind ?_
  simp only [newExc, newTuple]
  refine wpAny_bind (wpAny_newObj_type ?_ (by size_fits))
  refine wpAny_bind (m := firstArgMember _ _) (wpAny_of_eq (a := Value.none) (by first | rfl | (simp only [firstArgMember]; rfl)) ?_)
  refine wpAny_newObj_type ?_ (by size_fits)
  have gx2 := Heap.get?_push_of_some { cls := .type "tuple", data := .seq #[] } ((Heap.SameBut.update (h := s.heap) (a := it) (f := Obj.mapFields (·.setIfInBounds 0 .none))).extBut x1 ox nx gx)
  refine raiseNew_hot ⟨hh, ox, vx, Heap.get?_push_of_some _ gx2, dx, kx⟩ (Nat.ne_of_lt (Heap.lt_size gx2)) (Heap.get?_push_size _ rfl) rfl (by first | (simp; done) | (simp; omega)) ?_
  refine wpAny_bind (wpAny_isInstance (T := "StopIteration") (b := true) ⟨_, Heap.get?_update_self _ (Heap.get?_push_size _ rfl) rfl, rfl⟩ isSubtype_stop ?_)
  refine wpAny_pure (hQ _ fun b o nb e => ?_)
  have e2 := Heap.get?_push_of_some { cls := .type "tuple", data := .seq #[] } ((Heap.SameBut.update (h := s.heap) (a := it) (f := Obj.mapFields (·.setIfInBounds 0 .none))).extBut b o nb e)
  rw [Heap.get?_update_other _ _ (Nat.ne_of_gt (Heap.lt_size e2))]
  exact Heap.get?_push_of_some _ e2
/-- a tuple unpacked -/
theorem tup_items_hot {t x1 : Addr} {items : Array Value} {Q : List Value → Shared → Prop} (hh : A.handled = some (.ref x1)) (xc : XcAt s.heap x1) (ht : IsTup s.heap t items)
    (hQ : ∀ h', Heap.ExtBut s.heap.objs.size s.heap h' → Q items.toList { s with heap := h' }) : wpAny (model prog w) A (unpackItems (.ref t) items.size none) Q E s := by
  have ne : t ≠ s.heap.objs.size := by
    obtain ⟨o, e, _⟩ := ht
    exact Nat.ne_of_lt (Heap.lt_size e)
  obtain ⟨ox, vx, gx, dx, kx⟩ := xc
  have nx : x1 ≠ s.heap.objs.size := Nat.ne_of_lt (Heap.lt_size gx)
  unfold unpackItems
  refine wpAny_bind ?_
  unfold notIterableAtAll
  refine wpAny_bind (wpAny_specialOf ht.typeIs slot_tuple_iter.lookup (wpAny_pure ?_))
  simp only [Bool.false_eq_true, if_false]
  refine wpAny_bind (wpAny_holding (iter_tuple ht ?_))
  refine wpAny_bind (wpAny_holding (draw_tuple ne items.size 0 _ _ ⟨_, Heap.get?_push_size _ rfl, rfl, rfl⟩ (ht.push _) (by omega) fun g st sb => ?_))
  have all : (items.toList.drop 0).take items.size = items.toList := by
    rw [List.drop_zero]
    exact List.take_of_length_le (by simp)
  rw [all, if_neg (by simp)]
  have tg : IsTup g t items := (ht.push _).extBut sb.extBut ne
  refine wpAny_bind (wpAny_holding (tup_end_hot hh ⟨ox, vx, sb.extBut x1 ox nx (Heap.get?_push_of_some _ gx), dx, kx⟩ nx st tg (by simp) fun g2 eb => ?_))
  simp only [Option.isSome_none, Bool.false_eq_true, if_false]
  exact wpAny_pure (hQ g2 fun b o nb e => eb b o nb (sb.extBut b o nb (Heap.get?_push_of_some _ e)))
theorem draws_hot {x1 it l : Addr} {items : Array Value} (hh : A.handled = some (.ref x1)) (ne : l ≠ it) (nx : x1 ≠ it) :
    Draws prog w A it [it, l, x1] items.size (fun i v => items[i]? = some v) (fun i h => (h.IsListIter it l i ∧ h.IsList l items) ∧ XcAt h x1) where
  live := fun _ _ st => let ⟨o, e, _⟩ := st.1.1; ⟨o, e⟩
  frame := fun _ _ _ st k => ⟨⟨st.1.1.at fun o e => k it (by simp) o e, st.1.2.at fun o e => k l (by simp) o e⟩, let ⟨o, vs, e, r⟩ := st.2; ⟨o, vs, k x1 (by simp) o e, r⟩⟩
  item := fun i s Q E hi st q => wpAny_nextOf_list_item st.1.1 st.1.2 (x := items[i]) (by simp [hi]) fun h' hit sb => q _ h' s.toks (by simp [hi]) ⟨⟨hit, st.1.2.extBut sb.extBut ne⟩, let ⟨o, vs, e, r⟩ := st.2; ⟨o, vs, sb.extBut x1 o nx e, r⟩⟩ sb
  done := fun s Q E st q => lst_end_hot hh st.2 nx st.1.1 st.1.2 (by simp) q
end
section
variable {X : Cx}
/-- a pair's names are set while an exception is handled -/
theorem pg_tupH {es : List Expr} {k : Nat} {pos : Pos} {t : TGs} {n : Nat} (hc : HotC X) (h : PGs X es t) (hn : (assignEach es X.env).length = n) (hst : (assignEach es X.env).findIdx? (·.1) = none) : PG X (.Tuple es k pos) (gTup X.K n t) :=
  ⟨fun pins s σ H v u Q I r ⟨a, xs, e1, hq, hl, hw⟩ => by
    subst e1
    cases r
    obtain ⟨x1, hh, o, vs, e, d, c⟩ := hc.at I
    obtain ⟨its, rv, tp, hz⟩ := I.tuple hq
    rw [PyProof.Rows.assign_Tuple]
    refine wpAny_bind (wpAny_standAt ?_)
    unfold unpack
    rw [show (assignEach es X.env).length = its.toArray.size by simp [hn, ← hl, rv.length], hst]
    refine wpAny_bind (wpAny_holding (tup_items_hot hh ⟨o, vs, e, d, c⟩ tp fun h' eb => ?_))
    exact h.run pins _ σ H xs _ Q (I.kept (t' := s.toks) fun b o e => eb b o (Nat.ne_of_lt (Heap.lt_size e)) e) (by simpa using rv) hw⟩
theorem sepH {z TI TO i1 i2 a b x1 : Addr} (D : ZipApart z TI TO i1 i2 a b) (n1 : x1 ≠ z) (n2 : x1 ≠ TO) (n3 : x1 ≠ i1) (n4 : x1 ≠ i2) : ZipSep2 z TI TO i1 i2 [i1, a, x1] [i2, b, x1] :=
  ⟨D.TIz, D.TOz, D.TITO, D.TIi1, by simp, by simp [D.i1z.symm, D.l1z.symm, n1.symm], by simp [D.TOi1, D.l1TO.symm, n2.symm], D.TIi2, by simp, by simp [D.i2z.symm, D.l2z.symm, n1.symm], by simp [D.TOi2, D.l2TO.symm, n2.symm], by simp [D.i12, D.l2i1.symm, n3.symm], by simp [D.i12.symm, D.l1i2.symm, n4.symm]⟩
theorem turn_zipH {P : Program} {w : World} {K : PySem.W.Frag} {elts : List Expr} {kk : Nat} {tpos : Pos} {a b z TI TO i1 i2 : Addr} (D : ZipApart z TI TO i1 i2 a b) :
    TurnH P w K (.Tuple elts kk tpos) (ItzK true true K a b) [z, TI, TO, i1, i2] z (fun i h => (IsZip h z TI TO .none ∧ IsPair h TI (.ref i1) (.ref i2) ∧ (∃ x y, IsPair h TO x y)) ∧ itI true h i1 a i ∧ itI true h i2 b i) where
  mem := (turn_zipK (k1 := true) (k2 := true) (P := P) (w := w) (K := K) (elts := elts) (kk := kk) (tpos := tpos) D).mem
  obj := (turn_zipK (k1 := true) (k2 := true) (P := P) (w := w) (K := K) (elts := elts) (kk := kk) (tpos := tpos) D).obj
  keep := (turn_zipK (k1 := true) (k2 := true) (P := P) (w := w) (K := K) (elts := elts) (kk := kk) (tpos := tpos) D).keep
  item := fun X hP hw hK hc i pins s σ H E I hf ⟨⟨hz, hTI, x0, y0, hTO⟩, h1, h2⟩ ⟨xs, ys, x, y, qx, qy, hx, hy⟩ => by
    subst hP hw hK
    obtain ⟨us, rv, p⟩ := qx.its I
    obtain ⟨us2, rv2, p2⟩ := qy.its I
    obtain ⟨u, hu, ru⟩ := rv.get hx
    obtain ⟨u2, hu2, ru2⟩ := rv2.get hy
    obtain ⟨q, ⟨hh, v1, d1, c1⟩, hq⟩ := hc
    have hp := I.pin q (List.mem_append_left _ hq)
    have nq : ∀ c ∈ [z, TI, TO, i1, i2], q.1 ≠ c := fun c hc => (hf c hc).2.2.2.2.2 q (List.mem_append_left _ hq)
    have xc : XcAt s.heap q.1 := ⟨q.2, v1, hp.1, d1, c1⟩
    have n1 : i < us.toArray.size := by have := (List.getElem?_eq_some_iff.mp hu).1; simpa using this
    have n2 : i < us2.toArray.size := by have := (List.getElem?_eq_some_iff.mp hu2).1; simpa using this
    have hh1 : X.A.in1.handled = some (.ref q.1) := hh
    refine wpAny_pyNext_zipD2_item (sepH D (nq z (by simp)) (nq TO (by simp)) (nq i1 (by simp)) (nq i2 (by simp))) (draws_hot hh1 D.l1i1 (nq i1 (by simp))) (draws_hot hh1 D.l2i2 (nq i2 (by simp))) hz hTI hTO ⟨⟨h1, p⟩, xc⟩ ⟨⟨h2, p2⟩, xc⟩ n1 n2 fun w1 w2 h' tk g1 g2 z' TO' s1 s2 hT hsz hk => ?_
    obtain rfl : u = w1 := by
      have g1 : us.toArray[i]? = some w1 := g1
      rw [List.getElem?_toArray, hu] at g1
      exact Option.some.inj g1
    obtain rfl : u2 = w2 := by
      have g2 : us2.toArray[i]? = some w2 := g2
      rw [List.getElem?_toArray, hu2] at g2
      exact Option.some.inj g2
    have zl : z < s.heap.objs.size := Heap.lt_size hz
    refine ⟨_, rfl, wpAny_letOwnedTupleGo_zip (s := { s with heap := h', toks := tk }) z' fun h2' z2' sb => ?_⟩
    have up : ∀ c o, c ≠ z → h'.get? c = some o → h2'.get? c = some o := fun c o n e => (sb.2 c n).trans e
    have hT2 := up _ _ (Nat.ne_of_gt zl) hT
    refine ⟨.ref s.heap.objs.size, _, I.turnedNew (t' := tk) (ch := [z, TI, TO, i1, i2]) (ob := .tup [x, y]) (fun c o nb e => ?_) hf (Nat.le_refl _) ⟨by show 2 ≤ sizeLine; decide, [u, u2], .cons ru (.cons ru2 .nil), ⟨_, hT2, rfl, _, rfl⟩⟩, rfl, ⟨_, x, y, rfl, I.hok.fresh (Nat.le_refl _), rfl, fun l q => by rw [q.one I qx]; exact hx, fun l q => by rw [q.one I qy]; exact hy⟩, ⟨⟨z2', up _ _ D.TIz (hk _ _ D.TIz D.TITO D.TIi1 D.TIi2 hTI), u, u2, up _ _ D.TOz TO'⟩, itI.hold (k := true) s1.1.1 fun o => up _ o D.i1z, itI.hold (k := true) s2.1.1 fun o => up _ o D.i2z⟩, fun c hc => ?_⟩
    · simp only [List.mem_cons, List.not_mem_nil, or_false, not_or] at nb
      exact up c o nb.1 (hk c o nb.1 nb.2.2.1 nb.2.2.2.1 nb.2.2.2.2 e)
    · have hn := (hf c hc).1
      have hl : c < s.heap.objs.size := by
        simp only [List.mem_cons, List.not_mem_nil, or_false] at hc
        rcases hc with rfl | rfl | rfl | rfl | rfl
        · exact zl
        · exact Heap.lt_size hTI
        · exact Heap.lt_size hTO
        · obtain ⟨_, e, _⟩ := itI.live (k := true) h1; exact Heap.lt_size e
        · obtain ⟨_, e, _⟩ := itI.live (k := true) h2; exact Heap.lt_size e
      rw [upd_ne (Nat.ne_of_lt hl)]
      exact hn
  done := fun X hP hw hK hc i pins s σ H E I hf ⟨⟨hz, hTI, x0, y0, hTO⟩, h1, h2⟩ ⟨xs, ys, qx, qy, e1, e2⟩ => by
    subst hP hw hK
    obtain ⟨us, rv, p⟩ := qx.its I
    obtain ⟨us2, rv2, p2⟩ := qy.its I
    have l1 : us.toArray.size = i := by have := rv.length; simp; omega
    have l2 : us2.toArray.size = i := by have := rv2.length; simp; omega
    obtain ⟨q, ⟨hh, v1, d1, c1⟩, hq⟩ := hc
    have hp := I.pin q (List.mem_append_left _ hq)
    have nq : ∀ c ∈ [z, TI, TO, i1, i2], q.1 ≠ c := fun c hc => (hf c hc).2.2.2.2.2 q (List.mem_append_left _ hq)
    have xc : XcAt s.heap q.1 := ⟨q.2, v1, hp.1, d1, c1⟩
    have hh1 : X.A.in1.handled = some (.ref q.1) := hh
    refine wpAny_pyNext_zipD2_end (i := i) (sepH D (nq z (by simp)) (nq TO (by simp)) (nq i1 (by simp)) (nq i2 (by simp))) (draws_hot hh1 D.l1i1 (nq i1 (by simp))) (draws_hot hh1 D.l2i2 (nq i2 (by simp))) hz hTI hTO ⟨⟨h1, p⟩, xc⟩ ⟨⟨h2, p2⟩, xc⟩ (by omega) (by omega) (.inl l1.symm) fun h' tk hk => ⟨rfl, I.turnedL (t' := tk) (ch := [z, TI, TO, i1, i2]) (fun c o nb e => ?_) hf⟩
    simp only [List.mem_cons, List.not_mem_nil, or_false, not_or] at nb
    exact hk c o nb.1 nb.2.2.1 nb.2.2.2.1 nb.2.2.2.2 e
  self := fun A i s Q E st h => wpAny_pyIter_zip st.1.1 h
def iZipL (K : PySem.W.Frag) (ta : TA) : TI := fun σ H R => ta σ H fun vs H1 => ∃ a b xs ys, vs = [.ref a, .ref b] ∧ SqL K H1 a xs ∧ SqL K H1 b ys ∧ R (ItzK true true K a b) H1
theorem pi_zipH {e e2 : Expr} {ta : TA} {p pos tpos : Pos} {elts : List Expr} {kk : Nat} (hg : Gl X "zip") (hm : X.mg "zip" = none) (ha : PA X [e, e2] ta)
    (hs : starEach [e, e2] X.env = (false, PySem.eval e X.env) :: starEach [e2] X.env := by rfl) (hpl : (backTo pos (starEach [e2] X.env)).any (·.1) = false := by rfl) :
    PIH X (.Tuple elts kk tpos) (.Call (.Name "zip" p) [e, e2] [] pos) (iZipL X.K ta) := ⟨fun pins s σ H R I h => by
  refine Call_ (ld_blt I hg hm PyProof.Rows.boot_zip (PyProof.Rows.callWith_type1 (thn (ha.run pos pins s σ H _ I h) fun us s1 ⟨vs, H1, I1, r1, a, b, xs, ys, ex, qx, qy, q⟩ => ?_) hs hpl))
  subst ex
  cases r1 with
  | cons r rr =>
    cases rr with
    | cons r2 rr =>
      cases rr
      cases r
      cases r2
      have qx : SqK true X.K H1 a xs := qx
      have qy : SqK true X.K H1 b ys := qy
      obtain ⟨_, _, p1⟩ := qx.its I1
      obtain ⟨_, _, p2⟩ := qy.its I1
      refine callK (k1 := true) (k2 := true) p1 p2 fun h' N hN st hk => wpAny_pyIter_zip st.1.1 ?_
      have I2 : Inv X pins σ H1 { s1 with heap := h' } := I1.kept (t' := s1.toks) hk
      refine ⟨N + 4, [N + 4, N + 2, N + 3, N, N + 1], _, _, H1, rfl, I2, turn_zipH (PySem.W.ktu_apart N a b (hN ▸ p1.lt) (hN ▸ p2.lt)), st, fun c hc => ?_, q⟩
      have hl : s1.heap.objs.size ≤ c := by
        rw [← hN]
        simp only [List.mem_cons, List.not_mem_nil, or_false] at hc
        rcases hc with rfl | rfl | rfl | rfl | rfl
        · exact Nat.le_add_right _ _
        · exact Nat.le_add_right _ _
        · exact Nat.le_add_right _ _
        · exact Nat.le_refl _
        · exact Nat.le_add_right _ _
      exact I1.fpOk hl (I1.hok.fresh hl)⟩
end
end Mi
/-! Mini: a comprehension while an exception is handled. -/
namespace Mi
open PySem PySem.Spec PyProof.Rows L2 HotX L2H
/-- the block of such a comprehension: the handled exception stays pinned -/
abbrev blkH (X : Cx) (s : Shared) (H : Hp) (scope : Scope) (cenv : PySem.Env) (fp : List Addr) : Cx := { X.blk s H scope cenv fp with pn := X.pn }
section
variable {X : Cx}
theorem HotC.blk (c : HotC X) {s : Shared} {H : Hp} {scope : Scope} {cenv : PySem.Env} {fp : List Addr} : HotC (blkH X s H scope cenv fp) := let ⟨p, h1, h2⟩ := c; ⟨p, h1, h2⟩
theorem inv_blkH {s s2 : Shared} {H H2 : Hp} {scope : Scope} {cenv : PySem.Env} {fp : List Addr} {σ : L2.St} (J : Inv (X.blk s H scope cenv fp) [] σ H2 s2) (hp : ∀ p ∈ X.pn, s2.heap.get? p.1 = some p.2 ∧ H2 p.1 = none ∧ p.1 ≠ cenv.locals ∧ p.1 ∉ frs X.stack ∧ ∀ v, p.2.data ≠ .cell v) :
    Inv (blkH X s H scope cenv fp) [] σ H2 s2 :=
  ⟨⟨J.ok.mod, J.ok.kind, J.ok.glob, J.ok.blt, J.ok.above, J.ok.inj, J.ok.has, J.ok.cab, J.ok.hd, J.ok.frames, J.ok.stk, J.ok.exf, J.ok.bs, J.ok.bsz, J.ok.noex, J.ok.exfs, J.ok.funs, J.ok.frf⟩,
    J.os, J.bare, J.base, J.loc, J.cell, J.free, J.freeC, fun p h => hp p (by simpa using (show p ∈ X.pn ++ [] from h)), J.hok, J.len⟩
theorem lc_hot {pins : List (Addr × Obj)} {s : Shared} {σ : L2.St} {H : Hp} {Q : VK} {elt tg iter : Expr} {ifs : List Expr} {scope : Scope} {own : List (Str × Nat)} {pos pos' : Pos} {wi : TI} {g : TG} {tt : TT} {te : TE} {use : Option (Value → Sem Unit)} {Qf : Value → Shared → Prop}
    (hc : HotC X) (hN : X.N.Nodup) (I : Inv X pins σ H s) (hi : PIH X tg iter wi) (ok : BlkOk X.N X.env.scope scope own)
    (hg : ∀ (s : Shared) (H : Hp) (ce : PySem.Env) (fp : List Addr), (∃ C cl, ce = compEnvC scope cl C X.env) → PG (blkH X s H scope ce fp) tg g) (ht : ∀ (s : Shared) (H : Hp) (ce : PySem.Env) (fp : List Addr), (∃ C cl, ce = compEnvC scope cl C X.env) → PTs (blkH X s H scope ce fp) ifs tt)
    (he : ∀ (s : Shared) (H : Hp) (ce : PySem.Env) (fp : List Addr), (∃ C cl, ce = compEnvC scope cl C X.env) → PE (blkH X s H scope ce fp) elt te) (hs : ∀ x, foldedSetIterable iter X.env x = pure x)
    (h : tLc wi g tt te (own.map (·.2)) σ H Q)
    (fin : ∀ D C s' m H', Inv X pins σ H' s' → Q (.ref D) H' → s'.heap.Ns C m → FpOk X pins H' C → compPost (model X.prog X.w) X.A X.xe use Qf (.ref D) C (.ok .next) s') :
    wpAny (model X.prog X.w) X.A (comprehension (.ListComp elt [⟨tg, iter, ifs, 0⟩] scope pos) scope X.env pos' (newList []) false (PySem.eval iter X.env) use) Qf X.xe s := by
  have free : ∀ y ∈ scope.names, y.2 = .free → ∃ c, X.env.cells.lookup y.1 = some c := fun y hy e => (ok.free y hy e).elim (fun k => I.ok.has _ (.inl k)) fun k => I.ok.has _ (.inr k)
  refine wpAny_comprehension_free (use := use) rfl hs (closure_ok free) ok.kind (fun y hy e => by rw [ok.uniq y hy, e]) (thn (hi.run pins s σ H _ I h) fun xv s1 h1 => thn h1 fun itv s2 h2 => ?_)
  obtain ⟨it, fp, tn, J, H2, e, I2, T, st2, f2, q⟩ := h2
  subst e
  refine wpAny_newObj_type (newEnv_comp ?_) (by show 0 ≤ sizeLine; decide)
  -- the list that is made
  generalize eD : s2.heap.objs.size = D
  obtain ⟨W, ⟨m0, w0⟩, turn⟩ := q D (I2.hok.fresh (Nat.le_of_eq eD))
  generalize e3 : ({ s2 with heap := s2.heap.push { cls := .type "list", data := .seq ([] : List Value).toArray } } : Shared) = s3
  have g3 : s3.heap = s2.heap.push { cls := .type "list", data := .seq ([] : List Value).toArray } := by rw [← e3]
  have k3 : ∀ b o, s2.heap.get? b = some o → s3.heap.get? b = some o := fun b o z => by
    rw [g3]
    exact Heap.get?_push_of_some _ z
  have I3 : Inv X pins σ (upd H2 D (.lst [])) s3 := by
    rw [← e3]
    refine I2.laid (t' := s2.toks) (fun b o z => Heap.get?_push_of_some _ z) (Nat.le_of_eq eD) ⟨Nat.zero_le _, [], 0, .nil, ?_⟩
    rw [← eD]
    exact Heap.get?_push_size _ rfl
  have old : ∀ b ∈ fp, b < s2.heap.objs.size := fun b hb => let ⟨o, z, _⟩ := T.obj _ _ st2 b hb; Heap.lt_size z
  have f3 : ∀ b ∈ fp, FpOk X pins (upd H2 D (.lst [])) b ∧ b < s3.heap.objs.size := fun b hb => by
    have lt := old b hb
    refine ⟨⟨?_, (f2 b hb).2⟩, ?_⟩
    · rw [upd_ne (by rw [← eD]; exact Nat.ne_of_lt lt)]
      exact (f2 b hb).1
    · rw [g3, Heap.size_push]
      exact Nat.lt_succ_of_lt lt
  have st3 : tn 0 s3.heap := T.keep _ _ _ st2 fun b _ o z => k3 b o z
  generalize eC : s3.heap.objs.size = C
  generalize ecl : cellsFrom (C + 1) scope.names (cloFrom X.env.cells scope.names []) = cl
  generalize e4 : ({ s3 with heap := pushCells (s3.heap.push { cls := .type "dict", data := .dict #[] }) scope.names } : Shared) = s4
  have k4 : ∀ b o, s3.heap.get? b = some o → s4.heap.get? b = some o := fun b o z => by
    rw [← e4]
    exact pushCells_keeps _ _ _ _ (Heap.get?_push_of_some _ z)
  have ece : ∃ C0 cl0, compEnvC scope cl C X.env = compEnvC scope cl0 C0 X.env := ⟨C, cl, rfl⟩
  have J4 : Inv (X.blk s3 (upd H2 D (.lst [])) scope (compEnvC scope cl C X.env) fp) [] (wipe σ (own.map (·.2))) (upd H2 D (.lst [])) s4 := by
    have := block_start I3 ok hN f3
    rw [eC, ecl, e4] at this
    exact this
  generalize e5 : compEnvC scope cl C X.env = ce at J4 ece
  have cL : ce.locals = C := by rw [← e5]; rfl
  generalize eH : upd H2 D (.lst []) = H3 at I3 J4 w0 f3
  have I4 : Inv (blkH X s3 H3 scope ce fp) [] (wipe σ (own.map (·.2))) H3 s4 := inv_blkH J4 fun p hp => by
    obtain ⟨p1, p2, p3, p4, p5⟩ := I3.pin p (List.mem_append_left _ hp)
    refine ⟨k4 _ _ p1, p2, ?_, fun z => ?_, p5⟩
    · rw [cL, ← eC]
      exact Nat.ne_of_lt (Heap.lt_size p1)
    · rcases List.mem_cons.mp (I3.stkSub p.1 z) with z | z
      · exact p3 z
      · exact p4 z
  have hotB : HotC (blkH X s3 H3 scope ce fp) := HotC.blk hc
  have pg := hg s3 H3 ce fp ece
  have pt := ht s3 H3 ce fp ece
  have pe := he s3 H3 ce fp ece
  have st4 : tn 0 s4.heap := T.keep _ _ _ st3 fun b _ o z => k4 b o z
  have stat : ∀ {σ' : L2.St} {H' : Hp} {s' : Shared}, Inv (blkH X s3 H3 scope ce fp) [] σ' H' s' → (∀ b ∈ fp, H' b = none) → ∀ b ∈ fp, FpOk (blkH X s3 H3 scope ce fp) [] H' b := fun {σ' H' s'} I' hn b hb =>
    ⟨hn b hb, (I'.ok.exf b hb).1, I'.ok.exfs b hb, .inl hb, fun x c z => (I'.ok.exf b hb).2 x c z, fun p hp => (f3 b hb).1.2.2.2.2.2 p (List.mem_append_left _ (by simpa using (show p ∈ X.pn ++ [] from hp)))⟩
  have loop : codeAny (model X.prog X.w) X.A (.compLoop (.ListComp elt [⟨tg, iter, ifs, 0⟩] scope pos) 0 (.ref it) (.ref D) ce) (compPost (model X.prog X.w) X.A X.xe use Qf (.ref D) C) s4 := by
    refine compLoop_any (fun n s' => ∃ i H', Inv (blkH X s3 H3 scope ce fp) [] (wipe σ (own.map (·.2))) H' s' ∧ tn i s'.heap ∧ (∀ b ∈ fp, H' b = none) ∧ W i n H') ?_ m0 ⟨0, H3, I4, st4, fun b hb => (f3 b hb).1.1, w0⟩
    rintro n s5 ⟨i, H5, I5, st5, n5, w5⟩
    rcases turn i n H5 w5 with ⟨stop, qq⟩ | ⟨go, Nx, hNx, step⟩
    · refine thnF (T.done (blkH X s3 H3 scope ce fp) rfl rfl rfl hotB i [] s5 _ H5 (fun _ _ => False) I5 (stat I5 n5) st5 stop) fun r s6 ⟨hr, I6⟩ => ?_
      subst hr
      have I7 : Inv X pins σ H5 s6 := I3.call' (ch := fp) I6.os I6.base I6.hok I6.bare fun b hb => ⟨(f3 b hb).1.2.2.2.1, (f3 b hb).1.2.1, (f3 b hb).1.2.2.2.2.1, (f3 b hb).1.2.2.2.2.2⟩
      obtain ⟨mm, hn, _⟩ := I6.loc
      have hn : s6.heap.Ns ce.locals mm := hn
      have z : H5 ce.locals = none := I6.free
      rw [cL] at hn z
      exact fin D C s6 mm H5 I7 qq hn (I3.fpOk (Nat.le_of_eq eC) z)
    · refine thnF (T.item (blkH X s3 H3 scope ce fp) rfl rfl rfl hotB i [] s5 _ H5 (fun _ _ => False) I5 (stat I5 n5) st5 go) fun r s6 ⟨u, hr, h6⟩ => ?_
      subst hr
      refine thnF h6 fun _ s7 ⟨x, H7, I7, r7, y7, st7, n7⟩ => ?_
      refine thnF (pg.run _ s7 _ H7 x u _ (I7.pinned (stat I7 n7) (T.obj _ _ st7)) r7 (step x H7 y7)) fun _ s8 ⟨σ8, H8, I8, hw8, q8⟩ => ?_
      refine thnF (pt.run _ s8 σ8 H8 _ I8 q8) fun b s9 ⟨H9, I9, q9⟩ => ?_
      have next : ∀ {s' : Shared} {H' : Hp}, Inv (blkH X s3 H3 scope ce fp) ([] ++ pinsAt fp s7.heap) σ8 H' s' → Nx H' → ∃ m, m < n ∧ ∃ i H', Inv (blkH X s3 H3 scope ce fp) [] (wipe σ (own.map (·.2))) H' s' ∧ tn i s'.heap ∧ (∀ b ∈ fp, H' b = none) ∧ W i m H' := fun {s' H'} I' nx => by
        obtain ⟨m', hm, w'⟩ := hNx H' nx
        have pin' : ∀ b ∈ fp, ∀ o, s7.heap.get? b = some o → s'.heap.get? b = some o ∧ H' b = none := fun b hb o z => let p := I'.pin (b, o) (List.mem_append_right _ (List.mem_append_right _ (mem_pinsAt hb z))); ⟨p.1, p.2.1⟩
        refine ⟨m', hm, i + 1, H', (I'.unpinned (pins := [])).weak (by rw [← hw8, wipe_length]) (fun j v z => ?_), T.keep _ _ _ st7 fun b hb o z => (pin' b hb o z).1, fun b hb => ?_, w'⟩
        · rw [← hw8] at z
          exact (wipe_some z).1
        · obtain ⟨o, z, _⟩ := T.obj _ _ st7 b hb
          exact (pin' b hb o z).2
      cases b with
      | false =>
        simp only [Bool.false_eq_true, if_false] at q9 ⊢
        exact next I9 q9
      | true =>
        simp only [if_true] at q9 ⊢
        refine thnF (pe.run _ s9 σ8 H9 _ I9 q9) fun z s10 ⟨yv, H10, I10, r10, acc, hD10, hz10, nx⟩ => ?_
        exact app_ok (X := blkH X s3 H3 scope ce fp) I10 hD10 hz10 r10 fun s11 I11 => next I11 nx
  have key := codeAny_compStart_list loop (T.self X.A 0 _ _ _ st4 loop)
  show codeAny _ _ (.compStart (.ListComp elt [⟨tg, iter, ifs, 0⟩] scope pos) 0 (.ref it) (.ref D) (compEnvC scope cl C X.env)) (compPost (model X.prog X.w) X.A X.xe use Qf (.ref D) C) s4
  rw [e5]
  exact key
theorem ps_setH {i : Nat} {y : Str} {py : Pos} {elt tg iter : Expr} {ifs : List Expr} {scope : Scope} {own : List (Str × Nat)} {pos spos : Pos} {wi : TI} {g : TG} {tt : TT} {te : TE} (hc : HotC X) (hN : X.N.Nodup) (hy : X.N[i]? = some y) (hyl : X.env.scope.names.lookup y = some .local)
    (hsw : swapsWith (.ListComp elt [⟨tg, iter, ifs, 0⟩] scope pos) (some (.Name y py)) spos.line X.env = pure true) (hi : PIH X tg iter wi) (ok : BlkOk X.N X.env.scope scope own)
    (hg : ∀ (s : Shared) (H : Hp) (ce : PySem.Env) (fp : List Addr), (∃ C cl, ce = compEnvC scope cl C X.env) → PG (blkH X s H scope ce fp) tg g) (ht : ∀ (s : Shared) (H : Hp) (ce : PySem.Env) (fp : List Addr), (∃ C cl, ce = compEnvC scope cl C X.env) → PTs (blkH X s H scope ce fp) ifs tt)
    (he : ∀ (s : Shared) (H : Hp) (ce : PySem.Env) (fp : List Addr), (∃ C cl, ce = compEnvC scope cl C X.env) → PE (blkH X s H scope ce fp) elt te) (hs : ∀ x, foldedSetIterable iter X.env x = pure x) :
    PS X (.Assign [.Name y py] (.ListComp elt [⟨tg, iter, ifs, 0⟩] scope pos) spos) (tAsg (tLc wi g tt te (own.map (·.2))) (gName i)) := ⟨fun pins s σ H D I h => by
  rw [exec_Assign_Name_used _ _ _ _ hsw]
  refine wpAny_bind (wpAny_standAt (wpAny_bind ?_))
  show wpAny _ X.A (do let _ ← comprehension (.ListComp elt [⟨tg, iter, ifs, 0⟩] scope pos) scope X.env (firstIterPos [⟨tg, iter, ifs, 0⟩] pos) (newList []) false (PySem.eval iter X.env) (some (assign (.Name y py) X.env))) _ _ s
  have h : tLc wi g tt te (own.map (·.2)) σ H (fun x H1 => gName i x σ H1 D.nx) := h
  refine wpAny_bind (thn (lc_hot (Qf := fun _ s' => L2.SP X pins D Flow.next s') hc hN I hi ok hg ht he hs h fun L C s' m H' I' q hn f => ?_) fun _ s' hq => wpAny_pure (wpAny_pure hq))
  show wpAny _ _ (assign (.Name y py) X.env (.ref L)) _ _ _
  refine wpAny_assign_Name (store_ok2 (v := V.ref L) I' hN hy (.inl hyl) rfl (fun s2 I2 ⟨a, sb, ha⟩ => ?_) (.inr hyl))
  obtain ⟨f0, f1, f2, f3, f4, f5⟩ := f
  have ne : C ≠ a := ha.elim (fun z => by rw [z]; exact f1) fun z => fun e => f4 y a z e.symm
  exact ⟨m, hn.sameBut sb ne, fun h3 sb3 => ⟨_, H', I2.turned (t' := s2.toks) (fun b o hb e => (sb3.2 b hb).trans e) f0 f1 f3 f4 f5, q⟩⟩⟩
end
end Mi
/-! Mini: the check of statements: what the model asks of stores. -/
namespace Mi
open PySem PySem.Spec PyProof.Rows L2
variable [Glb]
def isStar : Expr → Bool
  | .Starred .. => true
  | _ => false
def nmAt (sc : Scope) (l : Nat) : Expr → Option Str
  | .Name id pos => if sc.names.lookup id == some .local && pos.line == l then some id else none
  | _ => none
def swN (sc : Scope) (ts : List Expr) : List Str := ts.filterMap (nmAt sc ((ts.head?.map (·.pos.line)).getD 0))
/-- are the stores swapped? (none: the model does not say) -/
def swS (sc : Scope) : Expr → Expr → Option (Option (List Str))
  | .Tuple ts _ _, .Tuple vs _ _ =>
    if (!(ts.length == 2 || ts.length == 3) || vs.length != ts.length) = true then some none else
    if (vs.any isStar) = true then some none else
    if ((swN sc ts).length != ts.length || (swN sc ts).eraseDups.length != (swN sc ts).length) = true then some none else
    if (vs.all (foldedForSure 8)) = true then some none else
    if (vs.all (constantsAlone 8)) = true then none else some (some (swN sc ts))
  | .List .., .Tuple .. => none
  | _, _ => some none
theorem sw_key {sc : Scope} {env : PySem.Env} {ts vs : List Expr} {k k2 : Nat} {p p2 : Pos} (hk : sc.kind = .function) (hs : env.scope = sc) : swappedStores [.Tuple ts k p] (.Tuple vs k2 p2) env =
    (if (!(ts.length == 2 || ts.length == 3) || vs.length != ts.length) = true then pure none else
    if (vs.any isStar) = true then pure none else
    if ((swN sc ts).length != ts.length || (swN sc ts).eraseDups.length != (swN sc ts).length) = true then pure none else
    if (vs.all (foldedForSure 8)) = true then pure none else
    if (vs.all (constantsAlone 8)) = true then (do unsupported "assign.tuple-of-constant-expressions:order-of-the-stores"; pure (some (swN sc ts))) else pure (some (swN sc ts))) := by
  obtain ⟨sc', l, g, c, q, f, co, fr, b⟩ := env
  have hs : sc' = sc := hs
  subst hs
  have hb : (Env.mk sc' l g c q f co fr b).blockKind = .function := by unfold Env.blockKind; rw [hk]; rfl
  unfold swappedStores
  simp only [hb, bne_self_eq_false, Bool.or_false]
  have e1 : ∀ f : Expr → Bool, (∀ x, f x = isStar x) → vs.any f = vs.any isStar := fun f h => by rw [funext h]
  have e2 : ∀ f : Expr → Option Str, (∀ x, f x = nmAt sc' ((ts.head?.map (·.pos.line)).getD 0) x) → ts.filterMap f = swN sc' ts := fun f h => by rw [funext h]; rfl
  rw [e1 _ (fun x => by cases x <;> rfl), e2 _ (fun x => by cases x <;> rfl)]
theorem swS_ok {sc : Scope} {env : PySem.Env} {t e : Expr} {r : Option (List Str)} (hk : sc.kind = .function) (hs : env.scope = sc) (h : swS sc t e = some r) : swappedStores [t] e env = pure r := by
  unfold swS at h
  split at h
  · rename_i ts k p vs k2 p2
    rw [sw_key hk hs]
    have h : (if (!(ts.length == 2 || ts.length == 3) || vs.length != ts.length) = true then some none else
      if (vs.any isStar) = true then some none else
      if ((swN sc ts).length != ts.length || (swN sc ts).eraseDups.length != (swN sc ts).length) = true then some none else
      if (vs.all (foldedForSure 8)) = true then some none else
      if (vs.all (constantsAlone 8)) = true then none else some (some (swN sc ts))) = some r := h
    split at h
    · rename_i q
      cases h
      rw [if_pos q]
    · rename_i q
      rw [if_neg q]
      split at h
      · rename_i q
        cases h
        rw [if_pos q]
      · rename_i q
        rw [if_neg q]
        split at h
        · rename_i q
          cases h
          rw [if_pos q]
        · rename_i q
          rw [if_neg q]
          split at h
          · rename_i q
            cases h
            rw [if_pos q]
          · rename_i q
            rw [if_neg q]
            split at h
            · cases h
            · rename_i q
              rw [if_neg q]
              cases h
              rfl
  · cases h
  · rename_i n1 n2
    cases h
    unfold swappedStores
    cases t <;> cases e <;> first | rfl | exact absurd rfl (n1 _ _ _ _ _ _ rfl) | exact absurd rfl (n2 _ _ _ _ _ rfl) | exact (n1 _ _ _ _ _ _ rfl rfl).elim | exact (n2 _ _ _ _ _ rfl rfl).elim
/-- is the comprehension's value kept by the name itself? -/
def swapsB (sc : Scope) : Expr → Expr → Bool
  | .ListComp el gs s cp, .Name t pos => (sc.names.lookup t == some .local) && (pos.line == cp.line) && !(s.names.any fun (n, k) => n == t && (k == .local || k == .cell))
  | _, _ => false
def isOC : Expr → Bool
  | .SetComp .. => true
  | .DictComp .. => true
  | _ => false
def isLC : Expr → Bool
  | .ListComp .. => true
  | _ => false
theorem swaps_ok {sc : Scope} {env : PySem.Env} {t e : Expr} {l : Nat} (hk : sc.kind = .function) (hs : env.scope = sc) (ho : isOC e = false) : swapsWith e (some t) l env = pure (swapsB sc e t) := by
  obtain ⟨sc', a1, g, c, q, f, co, fr, b⟩ := env
  have hs : sc' = sc := hs
  subst hs
  have hb : (Env.mk sc' a1 g c q f co fr b).blockKind = .function := by unfold Env.blockKind; rw [hk]; rfl
  have ek : ∀ x, (Env.mk sc' a1 g c q f co fr b).kindOf x = sc'.names.lookup x := fun _ => rfl
  cases e <;> first | (cases ho; done) | rfl | skip
  rename_i el gs s cp
  cases t <;> first | rfl | skip
  rename_i t pos
  unfold swapsWith swapsB
  simp only [hb, ek]
  rfl
theorem isLC_iff {e : Expr} (h : isLC e = true) : ∃ el gs s p, e = .ListComp el gs s p := by
  cases e <;> first | (cases h; done) | exact ⟨_, _, _, _, rfl⟩
theorem drops_ok {env : PySem.Env} {e : Expr} {l : Nat} (ho : isOC e = false) (hl : isLC e = false) : swapsWith e none l env = pure false := by
  cases e <;> first | (cases ho; done) | (cases hl; done) | rfl
end Mi
/-! Mini: suites that run while an exception is handled. -/
namespace Mi
open PySem PySem.Spec PyProof.Rows L2 HotX L2H
variable [Glb]
/-! ### the check -/
/-- isinstance(n, y), n an exception of the class x that 'except xc' caught -/
def isHB (P : Info) (sc : Scope) (x xc n : Str) (b : Bool) : Expr → Bool
  | .Call (.Name f _) [.Name n' _, .Name y _] [] _ => decide (n' = n) && bltB P sc f "isinstance" && ((decide ((x, xc, y, b) ∈ P.trs) && glbB sc y && nmB y) || (bltB P sc y "ValueError" && decide ((x, b) ∈ P.tvs)))
  | _ => false
def hlB (P : Info) (sc : Scope) (x xc n : Str) : List E → List Expr → Bool
  | [], [] => true
  | .cst (.bl b) :: ms, e :: es => isHB P sc x xc n b e && plainE e && hlB P sc x xc n ms es
  | _, _ => false
def varB (N : List Str) (sc : Scope) (k : Nat) : Expr → Bool
  | .Name y _ => decide (N[k]? = some y) && visB sc y && nmB y
  | _ => false
def heB (P : Info) (N : List Str) (sc : Scope) (x xc n : Str) : E → Expr → Bool
  | .lst ms, .List es _ => hlB P sc x xc n ms es && decide (ms.length ≤ 1000)
  | .bin .add (.var k) (.lst ms), .BinOp l .Add (.List es _) _ => varB N sc k l && hlB P sc x xc n ms es && decide (ms.length ≤ 1000)
  | .cst d, .Constant c _ _ => cstB d c
  | .mt .split (.var k) [.cst (.str z)], .Call (.Attribute p q apos) [.Constant (.str z') _ _] [] pos => decide (q = "split") && decide (z = z') && varB N sc k p && noSup p && (apos.endLine == pos.line)
  | _, _ => false
def hsB (P : Info) (N : List Str) (sc : Scope) (fc : Str → Bool) (i : Nat) (x xc n : Str) : HSt → Stmt → Bool
  | .set j e, .Assign [.Name y py] e' _ => decide (j ≠ i) && decide (N[j]? = some y) && locB0 sc y && heB P N sc x xc n e e' && !isOC e' && !isLC e'
  | .cmp j w t e0 e1, .Assign [.Name y py] (.ListComp el [⟨.Tuple [.Name y1 p1, .Name y2 p2] kk tp, .Call (.Name z _) [a, b] [] _, [cd], 0⟩] scope cp) _ =>
    decide (j ≠ i) && decide (N[j]? = some y) && locB0 sc y && bltB P sc z "zip" && heB P N sc x xc n e0 a && heB P N sc x xc n e1 b && plainE a && plainE b && blkC N sc scope (ownOf N scope) &&
      nmT N (relS scope sc) (cellB scope) w (.Name y1 p1) && nmT N (relS scope sc) (cellB scope) t (.Name y2 p2) && varB N (relS scope sc) w el && varB N (relS scope sc) t cd &&
      subB ((ownOf N scope).map (·.2)) [w, t] && subB [w, t] ((ownOf N scope).map (·.2)) && swapsB sc (.ListComp el [⟨.Tuple [.Name y1 p1, .Name y2 p2] kk tp, .Call (.Name z tp) [a, b] [] tp, [cd], 0⟩] scope cp) (.Name y py)
  | _, _ => false
where locB0 (sc : Scope) (y : Str) : Bool := decide (sc.names.lookup y = some .local)
def hssB (P : Info) (N : List Str) (sc : Scope) (fc : Str → Bool) (i : Nat) (x xc n : Str) : List HSt → List Stmt → Bool
  | [], [] => true
  | h :: hs, s :: ss => hsB P N sc fc i x xc n h s && hssB P N sc fc i x xc n hs ss
  | _, _ => false
/-! ### readings -/
def HdAt (i : Nat) (a : Addr) (dx : Option Addr) (σ : L2.St) (H : Hp) : Prop := σ[i]? = some (some (.ref a)) ∧ DX dx H
theorem xd_live {K : PySem.W.Frag} {H : Hp} {m : MH} {loc : Loc} (s : Sim K H m loc) {dx : Addr} {fs : List (Str × V)} (h : H dx = some (.xd fs)) : ¬ Live m loc dx := by
  rintro (⟨n, c, h1, h2, h3⟩ | h2)
  · have z := s.cell n c dx h1 h3
    cases c with
    | lst ds =>
      obtain ⟨vs, e, _⟩ := z
      rw [h] at e
      cases e
    | dic ds =>
      obtain ⟨vs, e, _⟩ := z
      rw [h] at e
      cases e
    | clo i ds b =>
      obtain ⟨_, _, _, _, _, _, e, _⟩ := z.ex
      rw [h] at e
      cases e
    | ins k fs =>
      obtain ⟨_, _, _, _, e, _⟩ := z
      rw [h] at e
      cases e
    | dead => exact h2 rfl
  · rcases h2 with h2 | h2
    · obtain ⟨xs, e⟩ := s.hk dx h2
      rw [h] at e
      cases e
    · obtain ⟨p, hp, rfl⟩ := List.mem_map.mp h2
      obtain ⟨ps, e, _⟩ := s.tab p hp
      rw [h] at e
      cases e
theorem dx_keep {K : PySem.W.Frag} {H H' : Hp} {m m' : MH} {loc loc' : Loc} {dx : Option Addr} (s : Sim K H m loc) (k : KpM H m loc H' m' loc') (h : DX dx H) : DX dx H' := by
  rcases h with rfl | ⟨x, fs, rfl, e⟩
  · exact .inl rfl
  · exact .inr ⟨x, fs, rfl, (k.keep x _ e (xd_live s e)).1⟩
theorem HdAt.keep {K : PySem.W.Frag} {σ : L2.St} {H H' : Hp} {m m' : MH} {loc loc' : Loc} {i : Nat} {a : Addr} {dx : Option Addr} (h : HdAt i a dx σ H) (s : Sim K H m loc) (k : KpM H m loc H' m' loc') : HdAt i a dx σ H' := ⟨h.1, dx_keep s k h.2⟩
def tH (Γ : Gam) (i : Nat) (a : Addr) (dx : Option Addr) (ev : Env → MH → R D) : TE := fun σ H Q => HdAt i a dx σ H ∧ tE Γ W0 ev σ H Q
def tHA (Γ : Gam) (i : Nat) (a : Addr) (dx : Option Addr) (ev : Env → MH → R (List D)) : TA := fun σ H Q => HdAt i a dx σ H ∧ tA Γ W0 ev σ H Q
def tHS (Γ : Gam) (i : Nat) (a : Addr) (dx : Option Addr) (ex : Env → MH → Option (Env × MH)) : TS := fun D σ H => HdAt i a dx σ H ∧ ∃ env m loc, At Γ σ H env m loc ∧ match ex env m with
  | some (e, m') => ∀ σ' H' loc', Sim Γ.K H' m' loc' → KpM H m loc H' m' loc' → EnvR Γ.K H' (Live m' loc') loc' σ' e → σ'[i]? = some (some (.ref a)) → D.nx σ' H'
  | none => False
section
variable {Γ : Gam} {Y : Cx} {G : Nat → Option D} {C : Call} {i : Nat} {a : Addr} {dx : Option Addr} {e b : Expr} {es : List Expr} {pos p apos : Pos}
theorem ph_of {ev : Env → MH → R D} (h : SE Γ Y e ev) : PE Y e (tH Γ i a dx ev) := wkE (h W0 takes0) fun σ H Q ⟨_, q⟩ => q
theorem ph_nil : PA Y [] (tHA Γ i a dx (evals G C [])) := wkA pa_nil fun σ H Q ⟨_, env, m, loc, A, p⟩ => (show Po Γ (fun c d H => W0 c d σ H) H m loc (rlA Γ) (.ok [] m) Q from p).ret A.1 .nil
theorem ph_cons {d : E} {ds : List E} (hp : plainE e = true) (h : PE Y e (tH Γ i a dx (eval G C d))) (t : PA Y es (tHA Γ i a dx (evals G C ds))) : PA Y (e :: es) (tHA Γ i a dx (evals G C (d :: ds))) :=
  wkA (pa_cons h t (starEach_cons hp)) fun σ H Q ⟨hσ, env, m, loc, A, p⟩ => ⟨hσ, sub A (show Po Γ (fun c d H => W0 c d σ H) H m loc (rlA Γ) ((eval G C d env m).bind fun d m => (evals G C ds env m).bind fun ds m => .ok (d :: ds) m) Q from p) fun v1 H1 d1 m1 loc1 _ A1 k1 r1 p1 => ⟨hσ.keep A.1 k1, sub A1 p1 fun vs H2 ds m2 loc2 _ A2 k2 r2 p2 => p2.ret A2.1 (.cons (r1.mono k2) r2)⟩⟩
theorem ph_lst {ms : List E} (h : PA Y es (tHA Γ i a dx (evals G C ms))) (hl : ms.length ≤ 1000) : PE Y (.List es pos) (tH Γ i a dx (eval G C (.lst ms))) :=
  wkE (pe_lst h) fun σ H Q ⟨hσ, env, m, loc, A, p⟩ => ⟨hσ, sub A (show Po Γ (fun c d H => W0 c d σ H) H m loc (rlD Γ) ((evals G C ms env m).bind fun ds m => .ok (.lst ds) m) Q from p) fun vs H1 ds m1 loc1 e1 A1 k1 r1 p1 => by
    have z : vs.length ≤ LIM := by
      rw [r1.length, evals_len e1]
      exact Nat.le_trans hl (by decide)
    exact ⟨lim_le z, p1.lst A1.1 r1 z⟩⟩
theorem ph_add {d1 d2 : E} (hK : Y.K = Γ.K) (h1 : PE Y e (tH Γ i a dx (eval G C d1))) (h2 : PE Y b (tH Γ i a dx (eval G C d2))) : PE Y (.BinOp e .Add b pos) (tH Γ i a dx (eval G C (.bin .add d1 d2))) := by
  obtain ⟨r, hr, hg⟩ := ok_add hK
  refine wkE (pe_op hr h1 h2) fun σ H Q ⟨hσ, env, m, loc, A, p⟩ => ⟨hσ, sub A (show Po Γ (fun c d H => W0 c d σ H) H m loc (rlD Γ) ((eval G C d1 env m).bind fun x m => (eval G C d2 env m).bind fun y m => ofO (binD m .add x y) m) Q from p) fun v1 H1 d1 m1 loc1 _ A1 k1 r1 p1 => ⟨hσ.keep A.1 k1, sub A1 p1 fun v2 H2 d2 m2 loc2 _ A2 k2 r2 p2 => ?_⟩⟩
  obtain ⟨d, e, p3⟩ := p2.ofO
  exact hg _ H2 m2 loc2 v1 v2 d1 d2 d Q A2.1 (r1.mono k2) r2 e p3
theorem varB_ok {N : List Str} {sc : Scope} {k : Nat} (hN : Y.N = N) (hs : Y.env.scope = sc) (h : varB N sc k e = true) : SE Γ Y e (eval G C (.var k)) := by
  unfold varB at h
  split at h
  · obtain ⟨h, h3⟩ := and2 h
    obtain ⟨h1, h2⟩ := and2 h
    obtain ⟨n1, n2⟩ := nmB_iff h3
    exact se_var (by rw [hN]; exact of_decide_eq_true h1) (by rw [hs]; exact visB_iff h2) n1 n2
  · cases h
end
section
variable {Γ : Gam} {X : Cx} {N : List Str} {sc : Scope} {fc : Str → Bool} {P : Info} {G : Nat → Option D} {C : Call} {i : Nat} {a De : Addr} {dx : Option Addr} {x xc n : Str} {oe : Obj} {pn : List (Addr × Obj)}
/-- what is known of the exception that is handled -/
structure ExK (X : Cx) (P : Info) (i : Nat) (De : Addr) (dx : Option Addr) (x xc n : Str) (oe : Obj) : Prop where
  hi : X.N[i]? = some n
  hl : Vis X.env.scope n
  hn : nmB n = true
  hC : ExcC X.K De
  hz : L2N.Zn (.ref De) dx oe
  hf : ∃ vs, oe.data = .fields vs
  tr : ∀ y b, (x, xc, y, b) ∈ P.trs → ∃ Cy, X.mg y = some (.ref Cy) ∧ PySem.W.kitOne X.K (.ref De) (.ref Cy) = some b
  tv : ∀ b, (x, b) ∈ P.tvs → PySem.W.kitOne X.K (.ref De) (.type "ValueError") = some b
theorem boot_VE : bootBuiltins "ValueError" = some (.type "ValueError") := by decide +kernel
theorem boot_isi2 : bootBuiltins "isinstance" = some (.builtin "isinstance") := by decide +kernel
theorem isHB_ok (c : Cok Γ X N sc fc P G C) (k : ExK X P i De dx x xc n oe) {b : Bool} {e : Expr} (h : isHB P sc x xc n b e = true) : PE (X.suite a ((a, oe) :: pn)) e (tH Γ i a dx (eval G C (.cst (.bl b)))) := by
  unfold isHB at h
  split at h
  · rename_i f q1 n' q2 y q3 q4
    obtain ⟨h, h3⟩ := and2 h
    obtain ⟨h1, h2⟩ := and2 h
    have en := of_decide_eq_true h1
    subst en
    have B := c.blt h2 boot_isi2 (by decide) (by decide)
    have hv : PE (X.suite a ((a, oe) :: pn)) (.Name n' q2) (tVar i) := pe_var (X := X.suite a ((a, oe) :: pn)) k.hi k.hl (nmB_iff k.hn).1 (nmB_iff k.hn).2
    rcases Bool.or_eq_true_iff.mp h3 with h | h
    · obtain ⟨h, g3⟩ := and2 h
      obtain ⟨g1, g2⟩ := and2 h
      obtain ⟨Cy, my, hk⟩ := k.tr y b (of_decide_eq_true g1)
      have hg : PE (X.suite a ((a, oe) :: pn)) (.Name y q3) (tC (.ref Cy)) := pe_glob (X := X.suite a ((a, oe) :: pn)) (c.gln g2) my rfl (nmB_iff g3).1
      refine wkE (pe_callB (X := X.suite a ((a, oe) :: pn)) (call_isD (pn := pn) k.hC k.hz.zc k.hf) B.gl B.mg B.at_ (pa_cons hv (pa_cons hg pa_nil rfl) rfl) B.nn B.nd rfl rfl) fun σ H Q ⟨hσ, env, m, loc, A, p⟩ => ?_
      exact ⟨.ref a, hσ.1, hσ.2, .ref Cy, .ref Cy, b, rfl, fun u r => r, hk, (show Po Γ (fun c d H => W0 c d σ H) H m loc (rlD Γ) (.ok (.bl b) m) Q from p).ret A.1 (.bl b)⟩
    · obtain ⟨g1, g2⟩ := and2 h
      have B2 := c.blt g1 boot_VE (by decide) (by decide)
      have hk := k.tv b (of_decide_eq_true g2)
      have hg : PE (X.suite a ((a, oe) :: pn)) (.Name y q3) (tC (.ty "ValueError")) := pe_bltn (X := X.suite a ((a, oe) :: pn)) (v := .ty "ValueError") B2.gl B2.mg B2.at_ (show RelV (.ty "ValueError") (.type "ValueError") from rfl) B2.nn B2.nd
      refine wkE (pe_callB (X := X.suite a ((a, oe) :: pn)) (call_isD (pn := pn) k.hC k.hz.zc k.hf) B.gl B.mg B.at_ (pa_cons hv (pa_cons hg pa_nil rfl) rfl) B.nn B.nd rfl rfl) fun σ H Q ⟨hσ, env, m, loc, A, p⟩ => ?_
      exact ⟨.ref a, hσ.1, hσ.2, .ty "ValueError", .type "ValueError", b, rfl, fun u r => r, hk, (show Po Γ (fun c d H => W0 c d σ H) H m loc (rlD Γ) (.ok (.bl b) m) Q from p).ret A.1 (.bl b)⟩
  · cases h
theorem hlB_ok (c : Cok Γ X N sc fc P G C) (k : ExK X P i De dx x xc n oe) : ∀ {ms : List E} {es : List Expr}, hlB P sc x xc n ms es = true → PA (X.suite a ((a, oe) :: pn)) es (tHA Γ i a dx (evals G C ms))
  | [], [], _ => ph_nil
  | [], _ :: _, h => by cases h
  | m :: ms, [], h => by
    unfold hlB at h
    split at h
    · cases ‹_ :: _ = []›
    · cases ‹[] = _ :: _›
    · cases h
  | m :: ms, e :: es, h => by
    unfold hlB at h
    split at h
    · cases ‹_ :: _ = []›
    · rename_i b ms2 e2 es2 q1 q2
      cases q1
      cases q2
      obtain ⟨h, h3⟩ := and2 h
      obtain ⟨h1, h2⟩ := and2 h
      exact ph_cons h2 (isHB_ok c k h1) (hlB_ok c k h3)
    · cases h
theorem heB_ok (c : Cok Γ X N sc fc P G C) (k : ExK X P i De dx x xc n oe) {m : E} {e : Expr} (h : heB P N sc x xc n m e = true) : PE (X.suite a ((a, oe) :: pn)) e (tH Γ i a dx (eval G C m)) := by
  unfold heB at h
  split at h
  · obtain ⟨h1, h2⟩ := and2 h
    exact ph_lst (hlB_ok c k h1) (of_decide_eq_true h2)
  · obtain ⟨h, h3⟩ := and2 h
    obtain ⟨h1, h2⟩ := and2 h
    exact ph_add c.k (ph_of (varB_ok c.n c.sc h1)) (ph_lst (hlB_ok c k h2) (of_decide_eq_true h3))
  · obtain ⟨v, h1, h2⟩ := cst_ok (X := X.suite a ((a, oe) :: pn)) h
    exact ph_of (se_cst h1 h2)
  · obtain ⟨h, h5⟩ := and2 h
    obtain ⟨h, h4⟩ := and2 h
    obtain ⟨h, h3⟩ := and2 h
    obtain ⟨h1, h2⟩ := and2 h
    have e1 := of_decide_eq_true h1
    have e2 := of_decide_eq_true h2
    subst e1 e2
    exact ph_of (se_split (Γ := Γ) (X := X.suite a ((a, oe) :: pn)) rfl h4 h5 (varB_ok c.n c.sc h3) (se_cst pe_str rfl))
  · cases h
/-! ### statements of the suite -/
theorem phs_set (c : Cok Γ X N sc fc P G C) (hk : sc.kind = .function) {j : Nat} {e : E} {e' : Expr} {y : Str} {py pos : Pos} (hj : j ≠ i) (h1 : N[j]? = some y) (h2 : sc.names.lookup y = some .local) (ho : isOC e' = false) (hl : isLC e' = false) (he : PE (X.suite a ((a, oe) :: pn)) e' (tH Γ i a dx (eval G C e))) :
    PS (X.suite a ((a, oe) :: pn)) (.Assign [.Name y py] e' pos) (tHS Γ i a dx (fun env m => match eval G C e env m with
      | .ok d m => some (env.set j (some d), m)
      | _ => none)) := by
  have hloc : X.env.scope.names.lookup y = some .local := by rw [c.sc]; exact h2
  have hs : swapsWith e' (some (.Name y py)) pos.line X.env = pure false := by
    rw [swaps_ok hk c.sc ho]
    cases e' <;> first | rfl | cases hl
  refine wkS (ps_set (X := X.suite a ((a, oe) :: pn)) (i := j) c.nd (by show X.N[j]? = some y; rw [c.n]; exact h1) (.inl hloc) he hs (.inr hloc)) fun D σ H ⟨hσ, env, m, loc, A, p⟩ => ⟨hσ, env, m, loc, A, ?_⟩
  dsimp only at p
  cases q : eval G C e env m with
  | ok d m1 =>
    rw [q] at p
    intro v H1 l1 s1 k1 r1
    exact p (σ.set j (some v)) H1 l1 s1 k1 ((A.2.mono k1).set r1 j) (by rw [List.getElem?_set_ne hj]; exact hσ.1)
  | exc xx m1 =>
    rw [q] at p
    exact p.elim
  | stuck =>
    rw [q] at p
    exact p.elim
theorem nmT_okZ {Z : Cx} {N : List Str} {sc : Scope} {fc : Str → Bool} (hn : Z.N = N) (hs : Z.env.scope = sc) (hf : ∀ x, fc x = true → Z.fn x = true) {k : Nat} {y : Str} {py : Pos} (h : nmT N sc fc k (.Name y py) = true) : Z.N[k]? = some y ∧ L2.Loc Z.env.scope y ∧ (Z.fn y = true ∨ Z.env.scope.names.lookup y = some .local) := by
  obtain ⟨h1, h2⟩ := and2 h
  refine ⟨by rw [hn]; exact of_decide_eq_true h1, ?_⟩
  rw [hs]
  rcases Bool.or_eq_true_iff.mp h2 with h | h
  · exact ⟨.inl (of_decide_eq_true h), .inr (of_decide_eq_true h)⟩
  · obtain ⟨h3, h4⟩ := and2 h
    exact ⟨.inr (of_decide_eq_true h3), .inl (hf y h4)⟩
theorem pih_zip (c : Cok Γ X N sc fc P G C) {e0 e1 : E} {e2 e3 : Expr} {z : Str} {p1 pos tpos : Pos} {elts : List Expr} {kk : Nat} (hz : bltB P sc z "zip" = true) (hp : plainE e2 = true) (hq : plainE e3 = true)
    (h0 : PE (X.suite a ((a, oe) :: pn)) e2 (tH Γ i a dx (eval G C e0))) (h1 : PE (X.suite a ((a, oe) :: pn)) e3 (tH Γ i a dx (eval G C e1))) :
    PIH (X.suite a ((a, oe) :: pn)) (.Tuple elts kk tpos) (.Call (.Name z p1) [e2, e3] [] pos) (fun σ H R => HdAt i a dx σ H ∧ tR Γ W0 (rlJ Γ) (zipL G C e0 e1) σ H R) := by
  obtain ⟨rfl, r⟩ := c.rng hz
  refine ⟨fun pins s σ H R I ⟨hσ, env, m, loc, A, p⟩ => (pi_zipH (X := X.suite a ((a, oe) :: pn)) r.gl r.mg (pa_cons h0 (pa_cons h1 pa_nil (starEach_cons hq)) (starEach_cons hp)) (starEach_cons hp) (by rw [starEach_cons hq]; rfl)).run pins s σ H R I ?_⟩
  refine ⟨hσ, sub A (show Po Γ (fun c d H => W0 c d σ H) H m loc (rlJ Γ) ((eval G C e0 env m).bind fun d m => (eval G C e1 env m).bind fun d2 m => match d, d2 with
    | .lst xs, .lst ys => if xs.length = ys.length then .ok (zipD xs ys) m else .stuck
    | _, _ => .stuck) R from p) fun v H1 d1 m1 loc1 _ A1 k1 r1 p1 => ⟨hσ.keep A.1 k1, sub A1 p1 fun v2 H2 d2 m2 loc2 _ A2 k2 r2 p2 => ?_⟩⟩
  cases d1 with
  | lst xs =>
    cases d2 with
    | lst ys =>
      dsimp only at p2
      split at p2
      · rename_i hl
        have r1 := r1.mono k2
        obtain ⟨a1, vs, rfl, h1, q1, z1⟩ := seqK (k := true) r1
        obtain ⟨a2, ws, rfl, h2, q2, z2⟩ := seqK (k := true) r2
        have hK : X.K = Γ.K := c.k
        refine ⟨a1, a2, vs, ws, rfl, ?_, ?_, ?_⟩
        · show SqL X.K H2 a1 vs
          rw [hK]
          exact h1 _ _ _ (Kq.refl _ _ _)
        · show SqL X.K H2 a2 ws
          rw [hK]
          exact h2 _ _ _ (Kq.refl _ _ _)
        · show R (ItzK true true X.K a1 a2) H2
          rw [hK]
          exact p2.ret A2.1 (jw_zipK h1 q1 h2 q2 hl z1)
      · exact (show False from p2).elim
    | _ => exact (show False from p2).elim
  | _ => exact (show False from p2).elim
theorem hotY (k : ExK X P i De dx x xc n oe) : HotC (X.suite a ((a, oe) :: pn)) := by
  obtain ⟨vs, hv⟩ := k.hf
  exact ⟨(a, oe), ⟨rfl, vs, hv, k.hz.2.2 vs hv⟩, List.mem_cons_self⟩
end
end Mi
/-! Mini: try with a suite. -/
namespace Mi
open PySem PySem.Spec PyProof.Rows L2 HotX L2H
variable [Glb]
section
variable {Γ : Gam} {X : Cx} {N : List Str} {sc : Scope} {fc : Str → Bool} {P : Info} {G : Nat → Option D} {C : Call} {i : Nat} {a De : Addr} {dx : Option Addr} {x xc n : Str} {oe : Obj} {pn : List (Addr × Obj)}
theorem phs_cmp (c : Cok Γ X N sc fc P G C) (hk : sc.kind = .function) (k : ExK X P i De dx x xc n oe) {j w t : Nat} {e0 e1 : E} {y y1 y2 z : Str} {py p1 p2 p3 p4 tp cp spos : Pos} {kk : Nat} {el cd e2 e3 : Expr} {scope : Scope} (hj : j ≠ i) (h1 : N[j]? = some y) (h2 : sc.names.lookup y = some .local)
    (hz : bltB P sc z "zip" = true) (hp : plainE e2 = true) (hq : plainE e3 = true) (g0 : PE (X.suite a ((a, oe) :: pn)) e2 (tH Γ i a dx (eval G C e0))) (g1 : PE (X.suite a ((a, oe) :: pn)) e3 (tH Γ i a dx (eval G C e1))) (hb : blkC N sc scope (ownOf N scope) = true)
    (n1 : nmT N (relS scope sc) (cellB scope) w (.Name y1 p1) = true) (n2 : nmT N (relS scope sc) (cellB scope) t (.Name y2 p2) = true) (v1 : varB N (relS scope sc) w el = true) (v2 : varB N (relS scope sc) t cd = true)
    (o1 : subB ((ownOf N scope).map (·.2)) [w, t] = true) (o2 : subB [w, t] ((ownOf N scope).map (·.2)) = true) (hsw : swapsB sc (.ListComp el [⟨.Tuple [.Name y1 p1, .Name y2 p2] kk tp, .Call (.Name z p3) [e2, e3] [] p4, [cd], 0⟩] scope cp) (.Name y py) = true) :
    PS (X.suite a ((a, oe) :: pn)) (.Assign [.Name y py] (.ListComp el [⟨.Tuple [.Name y1 p1, .Name y2 p2] kk tp, .Call (.Name z p3) [e2, e3] [] p4, [cd], 0⟩] scope cp) spos) (tHS Γ i a dx (fun env m => match hval G C (.cmp j w t e0 e1) env m with
      | .ok d m => some (env.set j (some d), m)
      | _ => none)) := by
  have hloc : X.env.scope.names.lookup y = some .local := by rw [c.sc]; exact h2
  have hs0 := swaps_ok (t := .Name y py) (l := spos.line) hk c.sc (show isOC (.ListComp el [⟨.Tuple [.Name y1 p1, .Name y2 p2] kk tp, .Call (.Name z p3) [e2, e3] [] p4, [cd], 0⟩] scope cp) = false from rfl)
  rw [hsw] at hs0
  have ok : BlkOk X.N X.env.scope scope (ownOf N scope) := by
    rw [c.n, c.sc]
    exact blkOk_by hb
  have hot : HotC (X.suite a ((a, oe) :: pn)) := hotY k
  have esc : ∀ {C0 : Addr} {cl : List (Str × Addr)}, (compEnvC scope cl C0 (X.suite a ((a, oe) :: pn)).env).scope = relS scope sc := fun {C0 cl} => by
    rw [← c.sc]
    rfl
  refine wkS (ps_setH (X := X.suite a ((a, oe) :: pn)) (i := j) (own := ownOf N scope) (g := gOf X.K (.many [w, t])) (tt := tT Γ W0 (evalC G C (some (.var t)))) (te := tE Γ W0 (fun env m => noX (eval G C (.var w) env m))) hot c.nd (by show X.N[j]? = some y; rw [c.n]; exact h1) hloc hs0 (pih_zip c hz hp hq g0 g1) ok ?_ ?_ ?_ ?_) fun D σ H ⟨hσ, env, m, loc, A, p⟩ => ?_
  · rintro s H ce fp ⟨C0, cl, rfl⟩
    obtain ⟨a1, a2, a3⟩ := nmT_okZ (Z := blkH (X.suite a ((a, oe) :: pn)) s H scope (compEnvC scope cl C0 (X.suite a ((a, oe) :: pn)).env) fp) c.n esc (fun x h => h) n1
    obtain ⟨b1, b2, b3⟩ := nmT_okZ (Z := blkH (X.suite a ((a, oe) :: pn)) s H scope (compEnvC scope cl C0 (X.suite a ((a, oe) :: pn)).env) fp) c.n esc (fun x h => h) n2
    have hn : NmS (blkH (X.suite a ((a, oe) :: pn)) s H scope (compEnvC scope cl C0 (X.suite a ((a, oe) :: pn)).env) fp) [.Name y1 p1, .Name y2 p2] [w, t] := .cons a1 a2 a3 (.cons b1 b2 b3 .nil)
    exact pg_tupH (HotC.blk hot) (hn.pgs (show (blkH (X.suite a ((a, oe) :: pn)) s H scope (compEnvC scope cl C0 (X.suite a ((a, oe) :: pn)).env) fp).N.Nodup from c.nd)) hn.len (List.findIdx?_eq_none_iff.mpr fun p hp => by rw [hn.nost p hp])
  · rintro s H ce fp ⟨C0, cl, rfl⟩
    have hv := varB_ok (Γ := Γ) (Y := blkH (X.suite a ((a, oe) :: pn)) s H scope (compEnvC scope cl C0 (X.suite a ((a, oe) :: pn)).env) fp) (G := G) (C := C) c.n esc v2
    refine cond_some (st_plain (show (blkH (X.suite a ((a, oe) :: pn)) s H scope (compEnvC scope cl C0 (X.suite a ((a, oe) :: pn)).env) fp).K = Γ.K from c.k) hv (truthy_plain ?_ _) W0 takes0)
    unfold varB at v2
    split at v2 <;> first | rfl | cases v2
  · rintro s H ce fp ⟨C0, cl, rfl⟩
    exact nox_el (varB_ok (Γ := Γ) (Y := blkH (X.suite a ((a, oe) :: pn)) s H scope (compEnvC scope cl C0 (X.suite a ((a, oe) :: pn)).env) fp) (G := G) (C := C) c.n esc v1 W0 takes0)
  · exact fold_pure rfl
  · refine ⟨hσ, ?_⟩
    refine lc_read (X := X.suite a ((a, oe) :: pn)) (Γ := Γ) (W := W0) (Q := fun x H1 => gName j x σ H1 D.nx) (ev := zipL G C e0 e1) (fe := fun env m => noX (eval G C (.var w) env m)) (fc := fun env m => evalC G C (some (.var t)) env m) (tg := .many [w, t]) c.k (fun env m x m' => noX_noexc x m') (fun env m x m' => evalC_noexc env m x m') (subB_iff o1) (subB_iff o2) ⟨env, m, loc, A, ?_⟩
    dsimp only at p
    show Po Γ (fun c d H => W0 c d σ H) H m loc (rlD Γ) (hval G C (.cmp j w t e0 e1) env m) _
    cases q : hval G C (.cmp j w t e0 e1) env m with
    | ok d m1 =>
      rw [q] at p
      intro v H1 l1 s1 k1 r1
      exact p (σ.set j (some v)) H1 l1 s1 k1 ((A.2.mono k1).set r1 j) (by rw [List.getElem?_set_ne hj]; exact hσ.1)
    | exc xx m1 =>
      rw [q] at p
      exact p.elim
    | stuck =>
      rw [q] at p
      exact p.elim
theorem hsB_ok (c : Cok Γ X N sc fc P G C) (hk : sc.kind = .function) (k : ExK X P i De dx x xc n oe) {h : HSt} {s : Stmt} (hb : hsB P N sc fc i x xc n h s = true) : PS (X.suite a ((a, oe) :: pn)) s (tHS Γ i a dx (fun env m => match hval G C h env m with
    | .ok d m => some (env.set h.j (some d), m)
    | _ => none)) := by
  unfold hsB at hb
  split at hb
  · obtain ⟨h, h6⟩ := and2 hb
    obtain ⟨h, h5⟩ := and2 h
    obtain ⟨h, h4⟩ := and2 h
    obtain ⟨h, h3⟩ := and2 h
    obtain ⟨h1, h2⟩ := and2 h
    exact phs_set c hk (of_decide_eq_true h1) (of_decide_eq_true h2) (of_decide_eq_true h3) (by simpa using h5) (by simpa using h6) (heB_ok c k h4)
  · obtain ⟨h, h16⟩ := and2 hb
    obtain ⟨h, h15⟩ := and2 h
    obtain ⟨h, h14⟩ := and2 h
    obtain ⟨h, h13⟩ := and2 h
    obtain ⟨h, h12⟩ := and2 h
    obtain ⟨h, h11⟩ := and2 h
    obtain ⟨h, h10⟩ := and2 h
    obtain ⟨h, h9⟩ := and2 h
    obtain ⟨h, h8⟩ := and2 h
    obtain ⟨h, h7⟩ := and2 h
    obtain ⟨h, h6⟩ := and2 h
    obtain ⟨h, h5⟩ := and2 h
    obtain ⟨h, h4⟩ := and2 h
    obtain ⟨h, h3⟩ := and2 h
    obtain ⟨h1, h2⟩ := and2 h
    exact phs_cmp c hk k (of_decide_eq_true h1) (of_decide_eq_true h2) (of_decide_eq_true h3) h4 h7 h8 (heB_ok c k h5) (heB_ok c k h6) h9 h10 h11 h12 h13 h14 h15 h16
  · cases hb
theorem hssB_ok (c : Cok Γ X N sc fc P G C) (hk : sc.kind = .function) (k : ExK X P i De dx x xc n oe) : ∀ {hs : List HSt} {ss : List Stmt}, hssB P N sc fc i x xc n hs ss = true → PSs (X.suite a ((a, oe) :: pn)) ss (tHS Γ i a dx (hrun G C hs))
  | [], [], _ => wkSs pss_nil fun D σ H ⟨hσ, env, m, loc, A, p⟩ => p σ H loc A.1 (Kp.refl _ _ _) A.2 hσ.1
  | [], _ :: _, h => by cases h
  | _ :: _, [], h => by cases h
  | h0 :: hs, s :: ss, h => by
    obtain ⟨h1, h2⟩ := and2 h
    refine wkSs (pss_cons (hsB_ok c hk k h1) (hssB_ok c hk k h2)) fun D σ H ⟨hσ, env, m, loc, A, p⟩ => ⟨hσ, env, m, loc, A, ?_⟩
    dsimp only
    unfold hrun at p
    cases q : hval G C h0 env m with
    | ok d m1 =>
      rw [q] at p
      intro σ' H' loc' s' k' r' hσ'
      refine ⟨⟨hσ', dx_keep A.1 k' hσ.2⟩, _, m1, loc', ⟨s', r'⟩, ?_⟩
      dsimp only at p
      cases q2 : hrun G C hs (env.set h0.j (some d)) m1 with
      | none =>
        rw [q2] at p
        exact p.elim
      | some r =>
        rw [q2] at p
        exact fun σ2 H2 l2 s2 k2 r2 g2 => p σ2 H2 l2 s2 (k'.trans k2) r2 g2
    | exc xx m1 =>
      rw [q] at p
      exact p.elim
    | stuck =>
      rw [q] at p
      exact p.elim
/-- a suite, whatever the class that was caught -/
def tSx (Γ : Gam) (P : Info) (X : Cx) (G : Nat → Option D) (C : Call) (i : Nat) (tab : List (Str × List HSt)) (xc : Str) (a : Addr) (cls : Value) (d : Option Addr) : TS := fun D σ H => ∃ (De : Addr) (x : Str) (su : List HSt), cls = .ref De ∧ ExcC X.K De ∧ (x, su) ∈ tab ∧
  (∀ y b, (x, xc, y, b) ∈ P.trs → ∃ Cy, X.mg y = some (.ref Cy) ∧ PySem.W.kitOne X.K (.ref De) (.ref Cy) = some b) ∧ (∀ b, (x, b) ∈ P.tvs → PySem.W.kitOne X.K (.ref De) (.type "ValueError") = some b) ∧ tHS Γ i a d (hrun G C su) D σ H
theorem ss_tryx {W : Nat} {b : List S} {b' suite : List Stmt} {b0 : Stmt} {tab : List (Str × List HSt)} {p1 p2 p3 : Pos} (c : Cok Γ X N sc fc P G C) (hk : sc.kind = .function) (Bs : X.stack = X.env :: X.outer) (Bf : X.env.frame = some X.env.locals) (hi : X.N[i]? = some n) (hl : X.env.scope.names.lookup n = some .local) (hn : nmB n = true) (gx : Gl X xc) (hx : nmB xc = true)
    (he : tab ≠ []) (ht : ∀ q ∈ tab, ∃ y b, (q.1, xc, y, b) ∈ P.trs) (hh : ∀ q ∈ tab, hssB P N sc fc i q.1 xc n q.2 (b0 :: suite) = true) (hb : ∀ (pn : List (Addr × Obj)) (xe : Value → Shared → Prop), PassesOwn (model X.prog X.w) X.A X.env xe → SSs Γ (X.tr pn xe) b' (execs G C W b)) :
    SS Γ X (.Try b' [.ExceptHandler (some (.Name xc p1)) (some n) (b0 :: suite) p2] [] [] p3) (exec G C W (.tryx i b tab)) := fun Wo tk => by
  obtain ⟨t0, tab', et⟩ := List.exists_cons_of_ne_nil he
  obtain ⟨y0, b1, hm0⟩ := ht t0 (by rw [et]; exact List.mem_cons_self)
  obtain ⟨De0, Ce, Cy, _, mx, _⟩ := c.tr _ hm0
  have mx : X.mg xc = some (.ref Ce) := mx
  refine wkS (L2N.ps_try_as (tb := fun W' => tS Γ W' (execs G C W b)) (ts := tSx Γ P X G C i tab xc) Bs Bf c.nd hi hl ⟨gx, (nmB_iff hx).1, .inl mx⟩ tk (fun W' pn xe tk' hp => hb pn xe hp W' tk') fun a oe cls d pn hz hf => ⟨fun pins s σ H D I hw => ?_⟩) fun D σ H ⟨env, m, loc, A, p⟩ => ?_
  · obtain ⟨De, x, su, rfl, hC, hm, h1, h2, hw⟩ := hw
    exact (hssB_ok (pn := pn) c hk ⟨hi, .inl hl, hn, hC, hz, hf, h1, h2⟩ (hh _ hm)).run pins s σ H D I hw
  · refine ⟨env, m, loc, A, ?_⟩
    have p : PoS Γ Wo H m loc (match execs G C W b env m with
      | some (.ex x e, m) => tryxEnd G C i tab x e m
      | r => r) D := p
    cases hr : execs G C W b env m with
    | none =>
      rw [hr] at p
      exact p
    | some q =>
      obtain ⟨fl, m'⟩ := q
      rw [hr] at p
      cases fl with
      | nx e => exact p
      | bk e => exact p
      | ct e => exact p
      | rt d => exact p
      | ex xx e =>
        have p2 : PoS Γ Wo H m loc (tryxEnd G C i tab xx e m') D := p
        clear p
        unfold tryxEnd at p2
        cases hq : tab.lookup xx.cls with
        | none =>
          rw [hq] at p2
          exact (show False from p2).elim
        | some su =>
          rw [hq] at p2
          dsimp only at p2
          split at p2
          · rename_i hlt
            intro σ' H' loc' s' k' e' cls d hxr
            have hmem : (xx.cls, su) ∈ tab := PySem.mem_of_lookup hq
            obtain ⟨y, b2, hm⟩ := ht _ hmem
            obtain ⟨De, Ce', Cy', q1, q2, q3, q4, q5, q6⟩ := c.tr _ hm
            obtain ⟨z, w⟩ := xx
            obtain ⟨rfl, hd⟩ := q1 w cls d H' hxr
            have q2 : X.mg xc = some (.ref Ce') := q2
            rw [mx] at q2
            cases q2
            refine ⟨true, q4, fun _ a ha => ⟨De, z, su, rfl, q6, hmem, fun y b hyb => ?_, fun b hyb => ?_, ⟨List.getElem?_set_self (by rw [e'.len]; exact hlt), hd⟩, e.set i none, m', loc', ⟨s', ?_⟩, ?_⟩, fun z => nomatch z⟩
            · obtain ⟨De2, _, Cy2, r1, _, r3, _, r5, _⟩ := c.tr _ hyb
              obtain ⟨r6, _⟩ := r1 w _ _ H' hxr
              have r6 := Value.ref.inj r6
              subst r6
              exact ⟨Cy2, r3, r5⟩
            · obtain ⟨De2, r1, r2⟩ := c.tv _ hyb
              obtain ⟨r6, _⟩ := r1 w _ _ H' hxr
              have r6 := Value.ref.inj r6
              subst r6
              exact r2
            · refine ⟨by rw [List.length_set, List.length_set, e'.len], fun j d h => ?_⟩
              by_cases q : i = j
              · subst q
                rw [List.getElem?_set_self hlt] at h
                cases h
              · rw [List.getElem?_set_ne q] at h ⊢
                exact e'.at_ j d h
            · cases q7 : hrun G C su (e.set i none) m' with
              | none =>
                rw [q7] at p2
                exact (show False from p2).elim
              | some r =>
                obtain ⟨e2, m2⟩ := r
                rw [q7] at p2
                intro σ2 H2 l2 s2 k2 r2 _
                refine p2 (σ2.set i none) H2 l2 s2 (k'.trans k2) ⟨by rw [List.length_set, List.length_set, r2.len], fun j d h => ?_⟩
                by_cases q : i = j
                · subst q
                  rw [List.getElem?_set] at h
                  split at h
                  · split at h <;> cases h
                  · exact absurd rfl ‹_›
                · rw [List.getElem?_set_ne q] at h ⊢
                  exact r2.at_ j d h
          · exact (show False from p2).elim
end
end Mi
/-! Mini: several clauses, without names. -/
namespace Mi
open PySem PySem.Spec PyProof.Rows L2
variable [Glb]
/-- the clauses' suites -/
def heK (N : List Str) (sc : Scope) : HEnd → List Stmt → Bool
  | .set j d, [.Assign [.Name y _] (.Constant c _ _) _] => cstB d c && decide (N[j]? = some y) && decide (sc.names.lookup y = some .local)
  | .ret d, [.Return (some (.Constant c _ _)) _] => cstB d c
  | _, _ => false
def hdK (P : Info) (N : List Str) (sc : Scope) : List HEnd → List ExceptHandler → Bool
  | [], [] => true
  | h :: hs, .ExceptHandler (some (.Name x _)) none su _ :: r => glbB sc x && nmB x && (P.trk.any fun q => decide (q.2.1 = x)) && heK N sc h su && hdK P N sc hs r
  | _, _ => false
/-- the i-th clause takes an exception of the class -/
def clK (P : Info) (De : Str) : Nat → List ExceptHandler → Bool
  | 0, .ExceptHandler (some (.Name x _)) _ _ _ :: _ => decide ((De, x, true) ∈ P.trk)
  | i + 1, .ExceptHandler (some (.Name x _)) _ _ _ :: r => decide ((De, x, false) ∈ P.trk) && clK P De i r
  | _, _ => false
/-- what a suite's end is, on the library's side -/
def endK (h : HEnd) (D : Ends) (σ : L2.St) (H : Hp) : Prop := match h with
  | .set j d => ∀ v, cstV d = some v → D.nx (σ.set j (some v)) H
  | .ret d => ∀ v, cstV d = some v → D.rt v H
section
variable {Γ : Gam} {X : Cx} {N : List Str} {sc : Scope} {fc : Str → Bool} {P : Info} {G : Nat → Option D} {C : Call}
theorem heK_ok (c : Cok Γ X N sc fc P G C) (hk : sc.kind = .function) {h : HEnd} {su : List Stmt} (hh : heK N sc h su = true) : ∃ b0 rest, su = b0 :: rest ∧ ∀ (a : Addr) (oe : Obj) (pn : List (Addr × Obj)), PSs (X.suite a ((a, oe) :: pn)) (b0 :: rest) (endK h) := by
  unfold heK at hh
  split at hh
  · rename_i j d y p1 k z p2 p3 
    obtain ⟨hh, h3⟩ := and2 hh
    obtain ⟨h1, h2⟩ := and2 hh
    refine ⟨_, _, rfl, fun a oe pn => ?_⟩
    have hloc : X.env.scope.names.lookup y = some .local := by rw [c.sc]; exact of_decide_eq_true h3
    obtain ⟨v, e1, e2⟩ := cst_ok (X := X.suite a ((a, oe) :: pn)) h1
    refine pss_one (wkS (ps_set (X := X.suite a ((a, oe) :: pn)) (i := j) c.nd (by show X.N[j]? = some y; rw [c.n]; exact of_decide_eq_true h2) (.inl hloc) e1 (by
      show swapsWith _ _ _ X.env = _
      rw [swaps_ok hk c.sc rfl]
      rfl) (.inr hloc)) fun D σ H q => ?_)
    exact q v e2
  · rename_i d k z p2 p3
    refine ⟨_, _, rfl, fun a oe pn => ?_⟩
    obtain ⟨v, e1, e2⟩ := cst_ok (X := X.suite a ((a, oe) :: pn)) hh
    exact pss_one (wkS (ps_ret e1) fun D σ H q => q v e2)
  · cases hh
theorem hdK_ok (c : Cok Γ X N sc fc P G C) (hk : sc.kind = .function) : ∀ {hs : List HEnd} {hds : List ExceptHandler}, hdK P N sc hs hds = true → ∃ l, L2N.HdsOk X hds l ∧
    ∀ (De : Str) (arg : Option D) (i : Nat) (h : HEnd), hs[i]? = some h → clK P De i hds = true → ∀ {Wout : WX} {D : Ends} {cls : Value} {d : Option Addr} {σ : L2.St} {H : Hp}, Γ.XR ⟨De, arg⟩ cls d H → endK h D σ H → wMany X.K Wout D l cls d σ H
  | [], [], _ => ⟨[], .nil, fun De arg i h e => by cases e⟩
  | [], _ :: _, h => by
    unfold hdK at h
    cases h
  | _ :: _, [], h => by
    unfold hdK at h
    cases h
  | h :: hs, hd :: r, hh => by
    unfold hdK at hh
    split at hh
    · cases ‹_ :: _ = []›
    · rename_i h1 hs1 x p1 su p2 r1 q1 q2
      cases q1
      cases q2
      obtain ⟨hh, g5⟩ := and2 hh
      obtain ⟨hh, g4⟩ := and2 hh
      obtain ⟨hh, g3⟩ := and2 hh
      obtain ⟨g1, g2⟩ := and2 hh
      obtain ⟨l, e1, e2⟩ := hdK_ok c hk g5
      obtain ⟨b0, rest, rfl, e3⟩ := heK_ok c hk g4
      obtain ⟨q, hq, e4⟩ := List.any_eq_true.mp g3
      have e4 := of_decide_eq_true e4
      obtain ⟨De0, Ce, _, e5, _⟩ := c.tk q hq
      rw [e4] at e5
      refine ⟨(.ref Ce, fun _ _ _ => endK h) :: l, .cons ⟨c.gln g1, (nmB_iff g2).1, .inl e5⟩ (fun a oe cls d pn _ _ => e3 a oe pn) e1, fun De arg i w ew ec {Wout D cls d σ H} hx he => ?_⟩
      cases i with
      | zero =>
        cases ew
        obtain ⟨De1, Ce1, z1, z2, z3⟩ := c.tk _ (of_decide_eq_true ec)
        have z2 : X.mg x = some (.ref Ce1) := z2
        rw [e5] at z2
        cases z2
        cases z1 arg cls d H hx
        exact ⟨true, z3, fun _ a ha => he, fun z => nomatch z⟩
      | succ i =>
        obtain ⟨y1, y2⟩ := and2 ec
        obtain ⟨De1, Ce1, z1, z2, z3⟩ := c.tk _ (of_decide_eq_true y1)
        have z2 : X.mg x = some (.ref Ce1) := z2
        rw [e5] at z2
        cases z2
        have ecl := z1 arg cls d H hx
        rw [ecl]
        refine ⟨false, z3, (fun z => nomatch z), fun _ => ?_⟩
        rw [← ecl]
        exact e2 De arg i w ew y2 hx he
    · cases hh
theorem ss_tryk {W : Nat} {b : List S} {b' : List Stmt} {hs : List HEnd} {hds : List ExceptHandler} {tab : List (Str × Nat)} {p3 : Pos} (c : Cok Γ X N sc fc P G C) (hk : sc.kind = .function) (Bs : X.stack = X.env :: X.outer) (Bf : X.env.frame = some X.env.locals)
    (h1 : hdK P N sc hs hds = true) (hne : hs ≠ []) (h2 : (tab.all fun q => clK P q.1 q.2 hds) = true) (hb : ∀ (pn : List (Addr × Obj)) (xe : Value → Shared → Prop), PassesOwn (model X.prog X.w) X.A X.env xe → SSs Γ (X.tr pn xe) b' (execs G C W b)) :
    SS Γ X (.Try b' hds [] [] p3) (exec G C W (.tryk b hs tab)) := fun Wo tk => by
  obtain ⟨l, e1, e2⟩ := hdK_ok c hk h1
  cases hds with
  | nil =>
    cases hs with
    | nil => exact absurd rfl hne
    | cons _ _ =>
      unfold hdK at h1
      cases h1
  | cons h0 hds =>
    refine wkS (L2N.ps_try_many (tb := fun W' => tS Γ W' (execs G C W b)) Bs Bf tk (fun W' pn xe tk' hp => hb pn xe hp W' tk') e1) fun D σ H ⟨env, m, loc, A, p⟩ => ?_
    refine ⟨env, m, loc, A, ?_⟩
    have p : PoS Γ Wo H m loc (match execs G C W b env m with
      | some (.ex x e, m) => trykEnd hs tab x e m
      | r => r) D := p
    cases hr : execs G C W b env m with
    | none =>
      rw [hr] at p
      exact p
    | some q =>
      obtain ⟨fl, m'⟩ := q
      rw [hr] at p
      cases fl with
      | nx e => exact p
      | bk e => exact p
      | ct e => exact p
      | rt d => exact p
      | ex xx e =>
        have p2 : PoS Γ Wo H m loc (trykEnd hs tab xx e m') D := p
        clear p
        unfold trykEnd at p2
        cases hl : tab.lookup xx.cls with
        | none =>
          rw [hl] at p2
          exact (show False from p2).elim
        | some i =>
          rw [hl] at p2
          dsimp only at p2
          cases hi : hs[i]? with
          | none =>
            rw [hi] at p2
            exact (show False from p2).elim
          | some h =>
            rw [hi] at p2
            dsimp only at p2
            intro σ' H' loc' s' k' r' cls d hx
            have hc := List.all_eq_true.mp h2 _ (PySem.mem_of_lookup hl)
            obtain ⟨z, w⟩ := xx
            refine e2 z w i h hi hc hx ?_
            cases h with
            | set j d0 =>
              intro v hv
              exact p2 (σ'.set j (some v)) H' loc' s' k' (r'.set (cstV_rep hv) j)
            | ret d0 =>
              intro v hv
              exact p2 v H' loc' s' k' (cstV_rep hv)
end
end Mi
/-! Mini: an exception with a line: raised, caught, its line read. -/
namespace Mi
open PySem PySem.Spec PyProof.Rows L2
variable [Glb]
section
variable {Γ : Gam} {X : Cx} {N : List Str} {sc : Scope} {fc : Str → Bool} {P : Info} {G : Nat → Option D} {C : Call}
theorem ss_raiI {x : Str} {e : Expr} {ev : Env → MH → R D} {p1 p3 pos : Pos} (c : Cok Γ X N sc fc P G C) (h1 : x ∈ P.ini) (h2 : glbB sc x = true) (h3 : nmB x = true) (hp : plainE e = true) (he : SE Γ X e ev) :
    SS Γ X (.Raise (some (.Call (.Name x p1) [e] [] p3)) none pos) (fun env m => (ev env m).at env fun d m => match d with
      | .int i => some (.ex ⟨x, some (.int i)⟩ env, m)
      | _ => none) := fun W' tk => by
  obtain ⟨Ca, fI, fd, k, T, iC, tI, hm, hl, hb, hr, F, ec, hx⟩ := c.ini x h1
  refine wkS (L2N.ps_raise c.calm tk (MX.pmk_init (CX := CX0) T iC tI F hr hb (c.gln h2) hm (he W' tk) (nmB_iff h3).1 (starEach_cons hp))) fun D σ H ⟨env, m, loc, A, p⟩ => ?_
  refine subS A p fun v H1 d m1 loc1 _ A1 k1 r1 p1 => ?_
  intro da hda
  cases d with
  | int i =>
    cases r1
    have p1 : PoS Γ W' H1 m1 loc1 (some (.ex ⟨x, some (.int i)⟩ env, m1)) D := p1
    exact p1 σ _ loc1 (A1.1.new hda) (kp_new hda A1.1) (A1.2.mono (kp_new hda A1.1)) _ _ ((hx i _ _ _).mpr ⟨rfl, da, rfl, upd_same⟩)
  | _ => exact (show False from p1).elim
/-! the suites -/
def lkB (P : Info) (sc : Scope) (x n : Str) : LK → List Stmt → Bool
  | .pair z, [.Return (some (.IfExp (.Call (.Name f _) [.Name n1 _, .Name y _] [] _) (.Tuple [.Constant .none _ _, .Attribute (.Name n2 _) a _] _ _) (.Tuple [.Constant .none _ _, .Constant (.str z') _ _] _ _) _)) _] =>
    decide (n1 = n) && decide (n2 = n) && decide (a = "line") && decide (z' = z) && bltB P sc f "isinstance" && glbB sc y && nmB y && decide ((x, x, y, true) ∈ P.trs)
  | .ne j b, [.If (.Compare (.Attribute (.Name n2 _) a _) [.NotEq] [.Constant (.int i) _ _] _) [.Return (some (.Constant (.bool b') _ _)) _] [] _] => decide (n2 = n) && decide (a = "line") && decide (i = j) && decide (b' = b)
  | _, _ => false
def tLk (Ca : Addr) (i : Nat) (k : LK) (a : Addr) (cls : Value) (d : Option Addr) : TS := fun D σ H => cls = .ref Ca ∧ ∃ (dx : Addr) (n : Int), d = some dx ∧ H dx = some (.xd [("line", .int n)]) ∧ σ[i]? = some (some (.ref a)) ∧ match k with
  | .pair _ => ∀ t, H t = none → D.rt (.ref t) (upd H t (.tup [.non, .int n]))
  | .ne j b => if n = j then D.nx σ H else D.rt (.bl b) H
theorem xf_of {K : PySem.W.Frag} {Ca : Addr} (h : ExcC K Ca) : XfC K Ca := ⟨h.hg, h.hk, h.hs, h.hd⟩
theorem lk_ok {i : Nat} {k : LK} {x n : Str} {b0 : Stmt} {suite : List Stmt} {Ca a : Addr} {oe : Obj} {cls : Value} {d : Option Addr} {pn : List (Addr × Obj)} (c : Cok Γ X N sc fc P G C) (hi : X.N[i]? = some n) (hl : Vis X.env.scope n) (hn : nmB n = true) (ec : ExcC X.K Ca) (hno : PySem.W.findIn X.K (.ref Ca) "line" = some none)
    (hxr : ∀ (j : Int) (cls : Value) (d : Option Addr) (H : Hp), cls = .ref Ca → (∃ dx, d = some dx ∧ H dx = some (.xd [("line", .int j)])) → Γ.XR ⟨x, some (.int j)⟩ cls d H) (hz : L2N.Zn cls d oe) (hf : ∃ vs, oe.data = .fields vs) (h : lkB P sc x n k (b0 :: suite) = true) :
    PSs (X.suite a ((a, oe) :: pn)) (b0 :: suite) (tLk Ca i k a cls d) := by
  unfold lkB at h
  split at h
  · rename_i z f q1 n1 q2 y q3 q4 c1 q5 n2 q6 at_ q7 q8 q9 c2 q10 z' c3 q11 q12 q13 q14 q15 heq
    cases heq
    obtain ⟨h, h8⟩ := and2 h
    obtain ⟨h, h7⟩ := and2 h
    obtain ⟨h, h6⟩ := and2 h
    obtain ⟨h, h5⟩ := and2 h
    obtain ⟨h, h4⟩ := and2 h
    obtain ⟨h, h3⟩ := and2 h
    obtain ⟨h1, h2⟩ := and2 h
    have e1 := of_decide_eq_true h1
    have e2 := of_decide_eq_true h2
    have e3 := of_decide_eq_true h3
    have e4 := of_decide_eq_true h4
    subst e1 e2 e3 e4
    have B := c.blt h5 boot_isi (by decide) (by decide)
    obtain ⟨De, Ce, Cy, t1, t2, t3, t4, t5, t6⟩ := c.tr _ (of_decide_eq_true h8)
    have t3 : X.mg y = some (.ref Cy) := t3
    refine ⟨fun pins s σ H D I hw => ?_⟩
    obtain ⟨rfl, dx, j, rfl, hdx, hs, hq⟩ := hw
    obtain ⟨t7, _⟩ := t1 (some (.int j)) (.ref Ca) (some dx) H (hxr j _ _ _ rfl ⟨dx, rfl, hdx⟩)
    have t7 := Value.ref.inj t7
    subst t7
    have hv : PE (X.suite a ((a, oe) :: pn)) (.Name n2 q2) (tVar i) := pe_var (X := X.suite a ((a, oe) :: pn)) hi hl (nmB_iff hn).1 (nmB_iff hn).2
    have hv2 : PE (X.suite a ((a, oe) :: pn)) (.Name n2 q6) (tVar i) := pe_var (X := X.suite a ((a, oe) :: pn)) hi hl (nmB_iff hn).1 (nmB_iff hn).2
    have hg : PE (X.suite a ((a, oe) :: pn)) (.Name y q3) (tC (.ref Cy)) := pe_glob (X := X.suite a ((a, oe) :: pn)) (c.gln h6) t3 rfl (nmB_iff h7).1
    have hT := pt_val (pe_callB (X := X.suite a ((a, oe) :: pn)) (p := q1) (pos := q4) (call_isD (pn := pn) ec hz.zc hf) B.gl B.mg B.at_ (pa_cons hv (pa_cons hg pa_nil rfl) rfl) B.nn B.nd rfl rfl) (by intro _; rfl)
    have hx := pe_xf (X := X) (a := a) (pn := pn) (pos := q7) (xf_of ec) hno hz.zc hf hv2 rfl
    have e1 : PE (X.suite a ((a, oe) :: pn)) (.Constant .none c1 q5) (tC .non) := pe_non
    have e2 : PE (X.suite a ((a, oe) :: pn)) (.Constant .none c2 q10) (tC .non) := pe_non
    have e3 : PE (X.suite a ((a, oe) :: pn)) (.Constant (.str z') c3 q11) (tC (.str z')) := pe_str
    have h1 := pe_tup (x1 := q8) (pos := q9) (pa_cons e1 (pa_cons hx pa_nil rfl) rfl)
    have h2 := pe_tup (x1 := q12) (pos := q13) (pa_cons e2 (pa_cons e3 pa_nil rfl) rfl)
    refine (pss_one (ps_ret (pe_ifExp hT h1 h2))).run pins s σ H D I ?_
    refine ⟨.ref a, hs, .inr ⟨dx, _, rfl, hdx⟩, .ref Cy, .ref Cy, true, rfl, fun u r => r, t5, true, rfl, ?_⟩
    exact ⟨.ref a, hs, rfl, rfl, dx, _, .int j, rfl, hdx, rfl, by show 2 ≤ sizeLine; decide, hq⟩
  · rename_i j b n2 q1 at_ q2 i2 c1 q3 q4 b2 c2 q5 q6 q7 heq
    cases heq
    obtain ⟨h, h4⟩ := and2 h
    obtain ⟨h, h3⟩ := and2 h
    obtain ⟨h1, h2⟩ := and2 h
    have e1 := of_decide_eq_true h1
    have e2 := of_decide_eq_true h2
    have e3 := of_decide_eq_true h3
    have e4 := of_decide_eq_true h4
    subst e1 e2 e3 e4
    refine ⟨fun pins s σ H D I hw => ?_⟩
    obtain ⟨rfl, dx, jj, rfl, hdx, hs, hq⟩ := hw
    have hv : PE (X.suite a ((a, oe) :: pn)) (.Name n2 q1) (tVar i) := pe_var (X := X.suite a ((a, oe) :: pn)) hi hl (nmB_iff hn).1 (nmB_iff hn).2
    have hx := pe_xf (X := X) (a := a) (pn := pn) (pos := q2) (xf_of ec) hno hz.zc hf hv rfl
    have e1 : PE (X.suite a ((a, oe) :: pn)) (.Constant (.int i2) c1 q3) (tC (.int i2)) := pe_int
    have e2 : PE (X.suite a ((a, oe) :: pn)) (.Constant (.bool b2) c2 q5) (tC (.bl b2)) := pe_bl
    refine (pss_one (ps_if (pt_cmpR op_ne hx e1 (nomark _)) (pss_one (ps_ret e2)) pss_nil)).run pins s σ H D I ?_
    refine ⟨.ref a, hs, rfl, rfl, dx, _, .int jj, rfl, hdx, rfl, ?_⟩
    refine ⟨rfl, ?_⟩
    have hq : if jj = i2 then D.nx σ H else D.rt (.bl b2) H := hq
    by_cases e : jj = i2
    · subst e
      rw [if_pos rfl] at hq
      exact ⟨false, by simp, hq⟩
    · rw [if_neg e] at hq
      exact ⟨true, by simp [e], hq⟩
  · cases h
theorem ss_tryl {W : Nat} {b : List S} {b' suite : List Stmt} {b0 : Stmt} {i : Nat} {k : LK} {x n : Str} {p1 p2 p3 : Pos} (c : Cok Γ X N sc fc P G C) (hk : sc.kind = .function) (Bs : X.stack = X.env :: X.outer) (Bf : X.env.frame = some X.env.locals) (hi : X.N[i]? = some n) (hl : X.env.scope.names.lookup n = some .local) (hn : nmB n = true) (gx : Gl X x) (hx : nmB x = true)
    (hin : x ∈ P.ini) (htk : (x, x, true) ∈ P.trk) (hs : lkB P sc x n k (b0 :: suite) = true) (hb : ∀ (pn : List (Addr × Obj)) (xe : Value → Shared → Prop), PassesOwn (model X.prog X.w) X.A X.env xe → SSs Γ (X.tr pn xe) b' (execs G C W b)) :
    SS Γ X (.Try b' [.ExceptHandler (some (.Name x p1)) (some n) (b0 :: suite) p2] [] [] p3) (exec G C W (.tryl i b x k)) := fun Wo tk => by
  obtain ⟨Ca, fI, fd, k', T, iC, tI, mx, hno, hbn, hr, F, ec, hxr⟩ := c.ini x hin
  obtain ⟨De, Ce, g1, g2, g3⟩ := c.tk _ htk
  have g2 : X.mg x = some (.ref Ce) := g2
  rw [mx] at g2
  cases g2
  refine wkS (L2N.ps_try_as (tb := fun W' => tS Γ W' (execs G C W b)) (ts := tLk Ca i k) Bs Bf c.nd hi hl ⟨gx, (nmB_iff hx).1, .inl mx⟩ tk (fun W' pn xe tk' hp => hb pn xe hp W' tk') fun a oe cls d pn hz hf => lk_ok c hi (.inl hl) hn ec hno (fun j cls d H e1 e2 => (hxr j cls d H).mpr ⟨e1, e2⟩) hz hf hs) fun D σ H ⟨env, m, loc, A, p⟩ => ?_
  refine ⟨env, m, loc, A, ?_⟩
  have p : PoS Γ Wo H m loc (match execs G C W b env m with
    | some (.ex y e, m) => trylEnd i x k y e m
    | r => r) D := p
  cases hr : execs G C W b env m with
  | none =>
    rw [hr] at p
    exact p
  | some q =>
    obtain ⟨fl, m'⟩ := q
    rw [hr] at p
    cases fl with
    | nx e => exact p
    | bk e => exact p
    | ct e => exact p
    | rt d => exact p
    | ex xx e =>
      have p2 : PoS Γ Wo H m loc (trylEnd i x k xx e m') D := p
      clear p
      obtain ⟨z, w⟩ := xx
      unfold trylEnd at p2
      dsimp only at p2
      split at p2
      · rename_i hlt
        obtain ⟨rfl, hlt⟩ := hlt
        split at p2
        · rename_i j
          intro σ' H' loc' s' k' e' cls d hx
          obtain ⟨rfl, dx, rfl, hdx⟩ := (hxr j cls d H').mp hx
          have hDe := Value.ref.inj (g1 _ _ _ _ hx)
          subst hDe
          refine ⟨true, g3, fun _ a ha => ⟨rfl, dx, j, rfl, hdx, List.getElem?_set_self (by rw [e'.len]; exact hlt), ?_⟩, fun z => nomatch z⟩
          cases k with
          | pair z2 =>
            intro t ht
            have p3 : ∀ v H2 loc2, Sim Γ.K H2 m' loc2 → KpM H m loc H2 m' loc2 → RepM Γ.K H2 m' loc2 v (.tup [.non, .int j]) → D.rt v H2 := p2
            have p4 : Po Γ (fun _ _ _ => False) H' m' loc' (rlD Γ) (.ok (.tup [.non, .int j]) m') (fun v H => D.rt v H) := fun v H2 loc2 s2 k2 r2 => p3 v H2 loc2 s2 (k'.trans k2) r2
            exact p4.tup s' (.cons .non (.cons (.int j) .nil)) (by show 2 ≤ LIM; decide) t ht
          | ne j2 b2 =>
            dsimp only at p2 ⊢
            split
            · rename_i e1
              rw [if_pos e1] at p2
              refine p2 _ H' loc' s' k' ?_
              refine ⟨by simp only [List.length_set, e'.len], fun l d h => ?_⟩
              by_cases q : i = l
              · subst q
                rw [List.getElem?_set_self hlt] at h
                cases h
              · rw [List.getElem?_set_ne q] at h
                simp only [List.getElem?_set_ne q]
                exact e'.at_ l d h
            · rename_i e1
              rw [if_neg e1] at p2
              exact p2 (.bl b2) H' loc' s' k' (.bl b2)
        · exact (show False from p2).elim
      · exact (show False from p2).elim
end
end Mi
/-! Mini: the check of statements. -/
namespace Mi
open PySem PySem.Spec PyProof.Rows L2
variable [Glb]
/-! ### statements -/
def isOne : Tg → Bool
  | .one _ => true
  | _ => false
def isLcE : E → Bool
  | .lc .. => true
  | _ => false
def locB (sc : Scope) (x : Str) : Bool := decide (sc.names.lookup x = some .local)
/-- a, b = x, y, swapped -/
def parB (P : Info) (N : List Str) (sc : Scope) (fc : Str → Bool) (ns : List Str) : Tg → E → Expr → Expr → Bool
  | .many [i, j], .tup ms, .Tuple [.Name x _, .Name y _] _ _, .Tuple es _ _ => decide (ns = [x, y]) && decide (N[i]? = some x) && decide (N[j]? = some y) && decide (i ≠ j) && locB sc x && locB sc y && decide (ms.length = 2) && chkEs P N ms es sc fc
  | .many [i, j, l], .tup ms, .Tuple [.Name x _, .Name y _, .Name z _] _ _, .Tuple es _ _ => decide (ns = [x, y, z]) && decide (N[i]? = some x) && decide (N[j]? = some y) && decide (N[l]? = some z) && decide (i ≠ j) && decide (i ≠ l) && decide (j ≠ l) && locB sc x && locB sc y && locB sc z && decide (ms.length = 3) && chkEs P N ms es sc fc
  | _, _, _, _ => false
def asgB (P : Info) (N : List Str) (sc : Scope) (fc : Str → Bool) (t : Tg) (m : E) (t' e : Expr) : Bool := match swS sc t' e with
  | some none => chkE P N m e sc fc && tgB N sc fc t t' && !isOC e && (!swapsB sc e t' || (isLC e && isOne t))
  | some (some ns) => parB P N sc fc ns t m t' e
  | none => false
mutual
def chkS (P : Info) (N : List Str) (sc : Scope) (fc : Str → Bool) : S → Stmt → Bool
  | .asg t m, s => (match s with
    | .Assign [t'] e _ => asgB P N sc fc t m t' e
    | _ => false)
  | .ret m, s => (match s with
    | .Return (some e) _ => chkE P N m e sc fc
    | _ => false)
  | .ife c a b, s => (match s with
    | .If c' a' b' _ => chkE P N c c' sc fc && chkSs P N sc fc a a' && chkSs P N sc fc b b'
    | _ => false)
  | .forr t k ms b, s => (match s with
    | .For t' iter b' [] _ => (match itArgs P sc t' k iter with
      | some bs => chkEs P N ms bs sc fc && plainE iter && tgB N sc fc t t' && chkSs P N sc fc b b'
      | none => false)
    | _ => false)
  | .forc t k ms b, s => (match s with
    | .For t' iter b' [] _ => (match itArgs P sc t' k iter with
      | some bs => chkEs P N ms bs sc fc && plainE iter && tgB N sc fc t t' && chkSs P N sc fc b b'
      | none => false)
    | _ => false)
  | .tryx i b tab, s => (match s with
    | .Try b' [.ExceptHandler (some (.Name x _)) (some n) (b0 :: suite) _] [] [] _ => chkSs P N sc fc b b' && decide (N[i]? = some n) && locB sc n && nmB n && glbB sc x && nmB x && !tab.isEmpty && tab.all fun q => (P.trs.any fun r => decide (r.1 = q.1) && decide (r.2.1 = x)) && hssB P N sc fc i q.1 x n q.2 (b0 :: suite)
    | _ => false)
  | .mks _, _ => false
  | .setf k o x v, s => (match s with
    | .Assign [.Attribute p y _] e _ => decide (y = x) && decide (Ob.cls k ∈ P.obs) && decide (Ob.noat k x ∈ P.obs) && !isOC e && !isLC e && chkE P N o p sc fc && chkE P N v e sc fc
    | _ => false)
  | .aug o i k f m, s => (match s with
    | .AugAssign (.Name x p1) op e _ => decide (op = opOf o) && nmT N sc fc i (.Name x p1) && decide (Ob.iop o k f ∈ P.obs) && chkE P N m e sc fc
    | _ => false)
  | .tryk b hs tab, s => (match s with
    | .Try b' hds [] [] _ => chkSs P N sc fc b b' && hdK P N sc hs hds && !hs.isEmpty && tab.all (fun q => clK P q.1 q.2 hds)
    | _ => false)
  | .raiI x m, s => (match s with
    | .Raise (some (.Call (.Name y _) [e] [] _)) none _ => decide (y = x) && decide (x ∈ P.ini) && glbB sc x && nmB x && plainE e && chkE P N m e sc fc
    | _ => false)
  | .tryl i b x k, s => (match s with
    | .Try b' [.ExceptHandler (some (.Name y _)) (some n) (b0 :: suite) _] [] [] _ => chkSs P N sc fc b b' && decide (y = x) && decide (N[i]? = some n) && locB sc n && nmB n && glbB sc x && nmB x && decide (x ∈ P.ini) && decide ((x, x, true) ∈ P.trk) && lkB P sc x n k (b0 :: suite)
    | _ => false)
  | .whl c b, s => (match s with
    | .While c' b' [] _ => chkE P N c c' sc fc && chkSs P N sc fc b b'
    | _ => false)
  | .exp m, s => (match s with
    | .Expr e _ => chkE P N m e sc fc && !isOC e && !isLC e
    | _ => false)
  | .seti o i v, s => (match s with
    | .Assign [.Subscript o' i' _] v' _ => chkE P N o o' sc fc && chkE P N i i' sc fc && chkE P N v v' sc fc && plainE i' && !isOC v'
    | _ => false)
  | .raise_ c ms, s => (match s with
    | .Raise (some (.Call (.Name x _) [.Constant (.str z) _ _] [] _)) none _ => decide (x = c) && decide (x ∈ P.exc) && glbB sc x && nmB x && (match ms with
      | [.cst (.str y)] => decide (y = z)
      | _ => false)
    | _ => false)
  | .brk, s => (match s with
    | .Break _ => true
    | _ => false)
  | .cnt, s => (match s with
    | .Continue _ => true
    | _ => false)
  | .nev, _ => true
  | .tryr i b tab, s => (match s with
    | .Try b' [.ExceptHandler (some (.Name x _)) (some n) [.Return (some (.Call (.Name f _) [.Name n' _, .Name y _] [] _)) _] _] [] [] _ => chkSs P N sc fc b b' && decide (N[i]? = some n) && locB sc n && nmB n && decide (n' = n) && bltB P sc f "isinstance" && glbB sc x && nmB x && glbB sc y && nmB y && !tab.isEmpty && tab.all fun q => decide ((q.1, x, y, q.2) ∈ P.trs)
    | _ => false)
def chkSs (P : Info) (N : List Str) (sc : Scope) (fc : Str → Bool) : List S → List Stmt → Bool
  | [], ss => (match ss with
    | [] => true
    | _ => false)
  | m :: ms, ss => (match ss with
    | s :: ss => chkS P N sc fc m s && chkSs P N sc fc ms ss
    | [] => false)
end
section
variable {Γ : Gam} {N : List Str} {P : Info} {G : Nat → Option D} {C : Call} {W : Nat} {X : Cx} {sc : Scope} {fc : Str → Bool}
theorem asg_one {t' : Expr} {t : Tg} (h : tgB N sc fc t t' = true) {env : PySem.Env} : (assignEach [t'] env).map (·.2) = [assign t' env] := by
  cases t with
  | one i => cases t' <;> first | rfl | cases h
  | many is => cases t' <;> first | rfl | cases h
theorem lc_ok (c : Cok Γ X N sc fc P G C) {m : E} {elt : Expr} {gs : List Comprehension} {scope : Scope} {pos : Pos} (h : chkE P N m (.ListComp elt gs scope pos) sc fc = true) :
    ∃ t iter ifs tg ev fe fc', gs = [⟨t, iter, ifs, 0⟩] ∧ eval G C m = lcE ev fe fc' tg ∧ LcOk Γ X elt t iter ifs scope (ownOf N scope) tg ev fe fc' := by
  cases m <;> first | (unfold chkE at h; cases h; done) | (rename_i w _ _ _; cases w <;> (unfold chkE at h; cases h); done) | (rename_i w _ _ _ _; cases w <;> (unfold chkE at h; cases h); done) | skip
  · rename_i elt' tg k ms cd
    unfold chkE at h
    split at h
    · rename_i el t iter ifs scope' pos' heq
      cases heq
      split at h
      · rename_i bs hb
        obtain ⟨h, h9⟩ := and2 h
        obtain ⟨h, h8⟩ := and2 h
        obtain ⟨h, h7⟩ := and2 h
        obtain ⟨h, h6⟩ := and2 h
        obtain ⟨h, h5⟩ := and2 h
        obtain ⟨h, h4⟩ := and2 h
        obtain ⟨h, h3⟩ := and2 h
        obtain ⟨h1, h2⟩ := and2 h
        have ok : BlkOk X.N X.env.scope scope (ownOf N scope) := by
          rw [c.n, c.sc]
          exact blkOk_by h3
        exact ⟨t, iter, ifs, tg, itE G C k ms, fun env m => noX (eval G C elt' env m), fun env m => evalC G C cd env m, rfl, eval_lc, ⟨it_ok c hb (okEs ms bs sc fc h1 c), ok, fun s H Ca cl fp => tgB_ok (c.blk (of_decide_eq_true h9) s H Ca cl fp) h4, fun s H Ca cl fp => okC cd _ _ _ h5 (c.blk (of_decide_eq_true h9) s H Ca cl fp), fun s H Ca cl fp => nox_el (okE elt' _ _ _ h6 (c.blk (of_decide_eq_true h9) s H Ca cl fp) W0 takes0), fun env m x m' => noX_noexc x m', fun env m x m' => evalC_noexc env m x m', subB_iff h7, subB_iff h8, h2⟩⟩
      · cases h
    · cases h
theorem asgB_ok {t : Tg} {m : E} {t' e : Expr} {pos : Pos} (c : Cok Γ X N sc fc P G C) (hk : sc.kind = .function) (h : asgB P N sc fc t m t' e = true) : SS Γ X (.Assign [t'] e pos) (exec G C W (.asg t m)) := by
  unfold asgB at h
  split at h
  · rename_i hsw
    have hw := swS_ok hk c.sc hsw
    obtain ⟨h, h4⟩ := and2 h
    obtain ⟨h, h3⟩ := and2 h
    obtain ⟨h1, h2⟩ := and2 h
    have ho : isOC e = false := by simpa using h3
    by_cases hs : swapsB sc e t' = true
    · rw [hs] at h4
      obtain ⟨h5, h6⟩ := and2 (show (isLC e && isOne t) = true from h4)
      obtain ⟨el, gs, scope, cp, rfl⟩ := isLC_iff h5
      cases t <;> first | (cases h6; done) | skip
      rename_i i
      obtain ⟨y, py, rfl, a1, a2, a3⟩ := nmT_ok c h2
      obtain ⟨t, iter, ifs, tg, ev, fe, fc', rfl, e1, ok⟩ := lc_ok c h1
      have hl : X.env.scope.names.lookup y = some .local := by
        rw [c.sc]
        have q := (and2 (and2 (show ((sc.names.lookup y == some .local) && (py.line == cp.line) && _) = true from hs)).1).1
        simpa using q
      have hx := swaps_ok (t := .Name y py) (l := pos.line) hk c.sc ho
      rw [hs] at hx
      have := ss_setLc (Γ := Γ) (spos := pos) c.k c.nd c.calm ok a1 hl hx
      rw [← e1] at this
      exact this
    · have hx := swaps_ok (t := t') (l := pos.line) hk c.sc ho
      rw [Bool.eq_false_iff.mpr hs] at hx
      exact ss_asg c.nd c.calm c.k (tgB_ok c h2) (okE m e sc fc h1 c) hx hw (asg_one h2)
  · rename_i ns hsw
    have hw := swS_ok hk c.sc hsw
    unfold parB at h
    split at h
    · rename_i i j ms x q1 y q2 q3 q4 es q5 q6
      obtain ⟨h, h8⟩ := and2 h
      obtain ⟨h, h7⟩ := and2 h
      obtain ⟨h, h6⟩ := and2 h
      obtain ⟨h, h5⟩ := and2 h
      obtain ⟨h, h4⟩ := and2 h
      obtain ⟨h, h3⟩ := and2 h
      obtain ⟨h1, h2⟩ := and2 h
      have en := of_decide_eq_true h1
      subst en
      have hs := okEs ms _ sc fc h8 c
      have hl : ms.length = 2 := of_decide_eq_true h7
      match ms, hl, hs with
      | [m0, m1], _, .cons p1 s1 (.cons p2 s2 .nil) =>
        exact ss_par c.calm c.nd (by rw [c.n]; exact of_decide_eq_true h2) (by rw [c.n]; exact of_decide_eq_true h3) (of_decide_eq_true h4) (by rw [c.sc]; exact of_decide_eq_true h5) (by rw [c.sc]; exact of_decide_eq_true h6) (.cons p1 s1 (.cons p2 s2 .nil)) hw
    · rename_i i j l ms x q1 y q2 z q3 q4 q5 es q6 q7
      obtain ⟨h, h12⟩ := and2 h
      obtain ⟨h, h11⟩ := and2 h
      obtain ⟨h, h10⟩ := and2 h
      obtain ⟨h, h9⟩ := and2 h
      obtain ⟨h, h8⟩ := and2 h
      obtain ⟨h, h7⟩ := and2 h
      obtain ⟨h, h6⟩ := and2 h
      obtain ⟨h, h5⟩ := and2 h
      obtain ⟨h, h4⟩ := and2 h
      obtain ⟨h, h3⟩ := and2 h
      obtain ⟨h1, h2⟩ := and2 h
      have en := of_decide_eq_true h1
      subst en
      have hs := okEs ms _ sc fc h12 c
      have hl : ms.length = 3 := of_decide_eq_true h11
      match ms, hl, hs with
      | [m0, m1, m2], _, .cons p1 s1 (.cons p2 s2 (.cons p3 s3 .nil)) =>
        exact ss_par3 c.calm c.nd (by rw [c.n]; exact of_decide_eq_true h2) (by rw [c.n]; exact of_decide_eq_true h3) (by rw [c.n]; exact of_decide_eq_true h4) (of_decide_eq_true h5) (of_decide_eq_true h6) (of_decide_eq_true h7) (by rw [c.sc]; exact of_decide_eq_true h8) (by rw [c.sc]; exact of_decide_eq_true h9) (by rw [c.sc]; exact of_decide_eq_true h10) (.cons p1 s1 (.cons p2 s2 (.cons p3 s3 .nil))) hw
    · cases h
  · cases h
theorem ss_nev {st : Stmt} : SS Γ X st (fun _ _ => none) := fun W tk => wkS ps_never fun D σ H ⟨env, m, loc, A, p⟩ => p
theorem ss_raise {x z : Str} {j : Nat} {p1 p2 p3 pos : Pos} (c : Cok Γ X N sc fc P G C) (h1 : x ∈ P.exc) (h2 : glbB sc x = true) (h3 : nmB x = true) : SS Γ X (.Raise (some (.Call (.Name x p1) [.Constant (.str z) j p2] [] p3)) none pos) (exec G C W (.raise_ x [.cst (.str z)])) := fun W' tk => by
  obtain ⟨Ca, bmB, B, newId, initId, F, q, g, k, r, hx⟩ := c.ex x h1
  refine wkS (L2N.ps_raise c.calm tk (L2N.pmk_own F q g k r (c.gln h2) (nmB_iff h3).1)) fun D σ H ⟨env, m, loc, A, p⟩ => ?_
  have p : PoS Γ W' H m loc (some (.ex ⟨x, some (.str z)⟩ env, m)) D := p
  exact p σ H loc A.1 (Kp.refl _ _ _) A.2 _ _ (hx _ _)
theorem for_eq {t : Tg} {k : IK} {ms : List E} {b : List S} : exec G C W (.forr t k ms b) = fun env m => (itE G C k ms env m).at env fun xs m => forRun t (fun env m => execs G C W b env m) xs env m := by
  funext env m
  show ((evals G C ms env m).at env fun ds m => match itemsD m k ds with
    | some xs => forRun t (fun env m => execs G C W b env m) xs env m
    | none => none) = ((evals G C ms env m).bind fun ds m => ofO (itemsD m k ds) m).at env fun xs m => forRun t (fun env m => execs G C W b env m) xs env m
  cases evals G C ms env m with
  | ok ds m1 =>
    simp only [R.bind, R.at]
    cases itemsD m1 k ds <;> rfl
  | exc x m1 => rfl
  | stuck => rfl
theorem forc_eq {t : Tg} {k : IK} {ms : List E} {b : List S} : exec G C W (.forc t k ms b) = fun env m => (itE G C k ms env m).at env fun xs m => forRun t (fun env m => swX m.length (execs G C W b env m)) xs env m := by
  funext env m
  show ((evals G C ms env m).at env fun ds m => match itemsD m k ds with
    | some xs => forRun t (fun env m => swX m.length (execs G C W b env m)) xs env m
    | none => none) = ((evals G C ms env m).bind fun ds m => ofO (itemsD m k ds) m).at env fun xs m => forRun t (fun env m => swX m.length (execs G C W b env m)) xs env m
  cases evals G C ms env m with
  | ok ds m1 =>
    simp only [R.bind, R.at]
    cases itemsD m1 k ds <;> rfl
  | exc x m1 => rfl
  | stuck => rfl
/-- where a body stands -/
structure Bok (X : Cx) : Prop where
  hp : PassesOwn (model X.prog X.w) X.A X.env X.xe
  hs : X.stack = X.env :: X.outer
  hf : X.env.frame = some X.env.locals
theorem Cok.tr' (c : Cok Γ X N sc fc P G C) (pn : List (Addr × Obj)) (xe : Value → Shared → Prop) : Cok Γ (X.tr pn xe) N sc fc P G C := ⟨c.n, c.nd, c.sc, c.k, c.calm, c.u, c.fc, c.fn, c.gl, c.bl, c.ex, c.tr, c.tv, fun z h => ⟨⟨(c.mkr z h).1.ex⟩, (c.mkr z h).2⟩, c.lm, ⟨c.ls.w, c.ls.p⟩, fun q h => by cases q <;> exact c.ob _ h, c.tk, c.ini⟩
/-- the suite: return isinstance(e, D) -/
def tSu (K : PySem.W.Frag) (i : Nat) (Cy : Addr) (a : Addr) (cls : Value) (d : Option Addr) : TS := fun D σ H => ∃ (De : Addr) (b : Bool), cls = .ref De ∧ DX d H ∧ ExcC K De ∧ PySem.W.kitOne K (.ref De) (.ref Cy) = some b ∧ σ[i]? = some (some (.ref a)) ∧ D.rt (.bl b) H
theorem su_ok {i : Nat} {n y f : Str} {Cy : Addr} {q1 q2 q3 q4 q5 : Pos} (hi : X.N[i]? = some n) (hl : Vis X.env.scope n) (hn : nmB n = true) (B : BltN X f (.builtin "isinstance")) (gy : Gl X y) (my : X.mg y = some (.ref Cy)) (hy : nmB y = true) (a : Addr) (oe : Obj) (cls : Value) (d : Option Addr) (pn : List (Addr × Obj)) (hz : L2N.Zn cls d oe) (hf : ∃ vs, oe.data = .fields vs) :
    PSs (X.suite a ((a, oe) :: pn)) [.Return (some (.Call (.Name f q1) [.Name n q2, .Name y q3] [] q4)) q5] (tSu X.K i Cy a cls d) := by
  refine ⟨fun pins s σ H D I h => ?_⟩
  obtain ⟨De, b, rfl, hd, hC, hk, hs, hq⟩ := h
  have hv : PE (X.suite a ((a, oe) :: pn)) (.Name n q2) (tVar i) := pe_var (X := X.suite a ((a, oe) :: pn)) hi hl (nmB_iff hn).1 (nmB_iff hn).2
  have hg : PE (X.suite a ((a, oe) :: pn)) (.Name y q3) (tC (.ref Cy)) := pe_glob (X := X.suite a ((a, oe) :: pn)) gy my rfl (nmB_iff hy).1
  refine (pss_one (ps_ret (pe_callB (X := X.suite a ((a, oe) :: pn)) (call_isD (pn := pn) hC hz.zc hf) B.gl B.mg B.at_ (pa_cons hv (pa_cons hg pa_nil rfl) rfl) B.nn B.nd rfl rfl))).run pins s σ H D I ?_
  exact ⟨.ref a, hs, hd, .ref Cy, .ref Cy, b, rfl, fun u r => r, hk, hq⟩
theorem ss_tryr {i : Nat} {b : List S} {b' : List Stmt} {tab : List (Str × Bool)} {n x y f : Str} {p1 p2 p3 q1 q2 q3 q4 q5 : Pos} (c : Cok Γ X N sc fc P G C) (B : Bok X) (hi : X.N[i]? = some n) (hl : X.env.scope.names.lookup n = some .local) (hn : nmB n = true) (Bi : BltN X f (.builtin "isinstance")) (gx : Gl X x) (hx : nmB x = true) (gy : Gl X y) (hy : nmB y = true)
    (he : tab ≠ []) (ht : ∀ q ∈ tab, (q.1, x, y, q.2) ∈ P.trs) (hb : ∀ (pn : List (Addr × Obj)) (xe : Value → Shared → Prop), PassesOwn (model X.prog X.w) X.A X.env xe → SSs Γ (X.tr pn xe) b' (execs G C W b)) :
    SS Γ X (.Try b' [.ExceptHandler (some (.Name x p1)) (some n) [.Return (some (.Call (.Name f q1) [.Name n q2, .Name y q3] [] q4)) q5] p2] [] [] p3) (exec G C W (.tryr i b tab)) := fun Wo tk => by
  obtain ⟨t0, tab', et⟩ := List.exists_cons_of_ne_nil he
  obtain ⟨De0, Ce, Cy, _, mx, my, _⟩ := c.tr _ (ht t0 (by rw [et]; exact List.mem_cons_self))
  have mx : X.mg x = some (.ref Ce) := mx
  have my : X.mg y = some (.ref Cy) := my
  refine wkS (L2N.ps_try_as (tb := fun W' => tS Γ W' (execs G C W b)) (ts := tSu X.K i Cy) B.hs B.hf c.nd hi hl ⟨gx, (nmB_iff hx).1, .inl mx⟩ tk (fun W' pn xe tk' hp => hb pn xe hp W' tk') fun a oe cls d pn hz hf => su_ok hi (.inl hl) hn Bi gy my hy a oe cls d pn hz hf) fun D σ H ⟨env, m, loc, A, p⟩ => ?_
  refine ⟨env, m, loc, A, ?_⟩
  have p : PoS Γ Wo H m loc (match execs G C W b env m with
    | some (.ex x e, m) => tryEnd i tab x e m
    | r => r) D := p
  cases hr : execs G C W b env m with
  | none =>
    rw [hr] at p
    exact p
  | some q =>
    obtain ⟨fl, m'⟩ := q
    rw [hr] at p
    cases fl with
    | nx e => exact p
    | bk e => exact p
    | ct e => exact p
    | rt d => exact p
    | ex xx e =>
      have p2 : PoS Γ Wo H m loc (tryEnd i tab xx e m') D := p
      clear p
      unfold tryEnd at p2
      cases hk : tab.lookup xx.cls with
      | none =>
        rw [hk] at p2
        exact (show False from p2).elim
      | some r =>
        rw [hk] at p2
        dsimp only at p2
        split at p2
        · rename_i hlt
          intro σ' H' loc' s' k' e' cls d hxr
          obtain ⟨De, Ce', Cy', g1, g2, g3, g4, g5, g6⟩ := c.tr _ (ht (xx.cls, r) (PySem.mem_of_lookup hk))
          obtain ⟨z, w⟩ := xx
          obtain ⟨rfl, hd⟩ := g1 w cls d H' hxr
          have g2 : X.mg x = some (.ref Ce') := g2
          have g3 : X.mg y = some (.ref Cy') := g3
          rw [mx] at g2
          rw [my] at g3
          cases g2
          cases g3
          refine ⟨true, g4, fun _ a ha => ⟨De, r, rfl, hd, g6, g5, List.getElem?_set_self (by rw [e'.len]; exact hlt), ?_⟩, fun z => nomatch z⟩
          exact p2 (.bl r) H' loc' s' k' (.bl r)
        · exact (show False from p2).elim
mutual
theorem okS : ∀ (m : S) (s : Stmt), chkS P N sc fc m s = true → ∀ {X : Cx}, Cok Γ X N sc fc P G C → sc.kind = .function → Bok X → SS Γ X s (exec G C W m)
  | .asg t m, s, h, X, c, hk, hp => by
    unfold chkS at h
    split at h
    · exact asgB_ok c hk h
    · cases h
  | .ret m, s, h, X, c, hk, hp => by
    unfold chkS at h
    split at h
    · exact ss_ret (okE m _ sc fc h c)
    · cases h
  | .ife t a b, s, h, X, c, hk, hp => by
    unfold chkS at h
    split at h
    · obtain ⟨h, h3⟩ := and2 h
      obtain ⟨h1, h2⟩ := and2 h
      exact ss_if (okT t _ sc fc h1 c) (okSs a _ h2 c hk hp) (okSs b _ h3 c hk hp)
    · cases h
  | .forr t k ms b, s, h, X, c, hk, hp => by
    unfold chkS at h
    split at h
    · split at h
      · rename_i bs hb
        obtain ⟨h, h4⟩ := and2 h
        obtain ⟨h, h3⟩ := and2 h
        obtain ⟨h1, h2⟩ := and2 h
        rw [for_eq]
        exact ss_for hp.hp c.nd c.calm c.k (it_ok c hb (okEs ms bs sc fc h1 c)) (tgB_ok c h3) (okSs b _ h4 c hk hp) h2
      · cases h
    · cases h
  | .forc t k ms b, s, h, X, c, hk, hp => by
    unfold chkS at h
    split at h
    · split at h
      · rename_i bs hb
        obtain ⟨h, h4⟩ := and2 h
        obtain ⟨h, h3⟩ := and2 h
        obtain ⟨h1, h2⟩ := and2 h
        rw [forc_eq]
        exact ss_for hp.hp c.nd c.calm c.k (it_ok c hb (okEs ms bs sc fc h1 c)) (tgB_ok c h3) (sss_sw (okSs b _ h4 c hk hp)) h2
      · cases h
    · cases h
  | .tryx i b tab, s, h, X, c, hk, hp => by
    unfold chkS at h
    split at h
    · rename_i b' x p1 n b0 suite p2 p3
      obtain ⟨h, h8⟩ := and2 h
      obtain ⟨h, h7⟩ := and2 h
      obtain ⟨h, h6⟩ := and2 h
      obtain ⟨h, h5⟩ := and2 h
      obtain ⟨h, h4⟩ := and2 h
      obtain ⟨h, h3⟩ := and2 h
      obtain ⟨h1, h2⟩ := and2 h
      refine ss_tryx c hk hp.hs hp.hf (by rw [c.n]; exact of_decide_eq_true h2) (by rw [c.sc]; exact of_decide_eq_true h3) h4 (c.gln h5) h6 (fun z => by rw [z] at h7; cases h7) (fun q hq => ?_) (fun q hq => (and2 (List.all_eq_true.mp h8 q hq)).2) fun pn xe hpa => okSs b _ h1 (c.tr' pn xe) hk ⟨hpa, hp.hs, hp.hf⟩
      obtain ⟨r, hr, e⟩ := List.any_eq_true.mp (and2 (List.all_eq_true.mp h8 q hq)).1
      obtain ⟨e1, e2⟩ := and2 e
      have e1 := of_decide_eq_true e1
      have e2 := of_decide_eq_true e2
      exact ⟨r.2.2.1, r.2.2.2, by rw [← e1, ← e2]; exact hr⟩
    · cases h
  | .mks _, s, h, X, c, hk, hp => by
    unfold chkS at h
    cases h
  | .setf k o x v, s, h, X, c, hk, hp => by
    unfold chkS at h
    split at h
    · rename_i p y p1 e p2
      obtain ⟨h, h7⟩ := and2 h
      obtain ⟨h, h6⟩ := and2 h
      obtain ⟨h, h5⟩ := and2 h
      obtain ⟨h, h4⟩ := and2 h
      obtain ⟨h, h3⟩ := and2 h
      obtain ⟨h1, h2⟩ := and2 h
      have e1 := of_decide_eq_true h1
      subst e1
      obtain ⟨a1, g1, c1⟩ := c.ob _ (of_decide_eq_true h2)
      obtain ⟨a2, g2, c2⟩ := c.ob _ (of_decide_eq_true h3)
      rw [g1] at g2
      cases g2
      have hs : swapsWith e (some (.Attribute p y p1)) p2.line X.env = pure false := by
        rw [swaps_ok hk c.sc (by simpa using h4)]
        have h5 : isLC e = false := by simpa using h5
        cases e <;> first | rfl | cases h5
      exact ss_setf g1 c1 c2 (okE o _ sc fc h6 c) (okE v _ sc fc h7 c) hs
    · cases h
  | .aug o i k f m, s, h, X, c, hk, hp => by
    unfold chkS at h
    split at h
    · rename_i x p1 op e p2
      obtain ⟨h, h4⟩ := and2 h
      obtain ⟨h, h3⟩ := and2 h
      obtain ⟨h1, h2⟩ := and2 h
      have e1 := of_decide_eq_true h1
      subst e1
      obtain ⟨x', pos', ex, n1, n2, n3⟩ := nmT_ok c h2
      cases ex
      obtain ⟨a1, g1, c1, fa, c2, c3, c4⟩ := c.ob _ (of_decide_eq_true h3)
      exact ss_aug (bo := o) (y := m) g1 c1 c2 c3 c4 c.nd n1 n2 n3 (okE m _ sc fc h4 c)
    · cases h
  | .tryk b hs tab, s, h, X, c, hk, hp => by
    unfold chkS at h
    split at h
    · obtain ⟨h, h4⟩ := and2 h
      obtain ⟨h, h3⟩ := and2 h
      obtain ⟨h1, h2⟩ := and2 h
      exact ss_tryk c hk hp.hs hp.hf h2 (fun z => by rw [z] at h3; cases h3) h4 fun pn xe hpa => okSs b _ h1 (c.tr' pn xe) hk ⟨hpa, hp.hs, hp.hf⟩
    · cases h
  | .raiI x m, s, h, X, c, hk, hp => by
    unfold chkS at h
    split at h
    · obtain ⟨h, h6⟩ := and2 h
      obtain ⟨h, h5⟩ := and2 h
      obtain ⟨h, h4⟩ := and2 h
      obtain ⟨h, h3⟩ := and2 h
      obtain ⟨h1, h2⟩ := and2 h
      have e1 := of_decide_eq_true h1
      subst e1
      exact ss_raiI c (of_decide_eq_true h2) h3 h4 h5 (okE m _ sc fc h6 c)
    · cases h
  | .tryl i b x k, s, h, X, c, hk, hp => by
    unfold chkS at h
    split at h
    · obtain ⟨h, h10⟩ := and2 h
      obtain ⟨h, h9⟩ := and2 h
      obtain ⟨h, h8⟩ := and2 h
      obtain ⟨h, h7⟩ := and2 h
      obtain ⟨h, h6⟩ := and2 h
      obtain ⟨h, h5⟩ := and2 h
      obtain ⟨h, h4⟩ := and2 h
      obtain ⟨h, h3⟩ := and2 h
      obtain ⟨h1, h2⟩ := and2 h
      have e1 := of_decide_eq_true h2
      subst e1
      exact ss_tryl c hk hp.hs hp.hf (by rw [c.n]; exact of_decide_eq_true h3) (by rw [c.sc]; exact of_decide_eq_true h4) h5 (c.gln h6) h7 (of_decide_eq_true h8) (of_decide_eq_true h9) h10 fun pn xe hpa => okSs b _ h1 (c.tr' pn xe) hk ⟨hpa, hp.hs, hp.hf⟩
    · cases h
  | .whl t b, s, h, X, c, hk, hp => by
    unfold chkS at h
    split at h
    · obtain ⟨h1, h2⟩ := and2 h
      exact ss_whl hp.hp (okT t _ sc fc h1 c) (okSs b _ h2 c hk hp)
    · cases h
  | .exp m, s, h, X, c, hk, hp => by
    unfold chkS at h
    split at h
    · obtain ⟨h, h3⟩ := and2 h
      obtain ⟨h1, h2⟩ := and2 h
      exact ss_exp (okE m _ sc fc h1 c) (drops_ok (by simpa using h2) (by simpa using h3))
    · cases h
  | .seti o i v, s, h, X, c, hk, hp => by
    unfold chkS at h
    split at h
    · rename_i o' i' p1 v' p2
      obtain ⟨h, h5⟩ := and2 h
      obtain ⟨h, h4⟩ := and2 h
      obtain ⟨h, h3⟩ := and2 h
      obtain ⟨h1, h2⟩ := and2 h
      have hu : X.A.units + 1 < cLine := Nat.lt_of_le_of_lt (Nat.add_le_add_left (by decide : 1 ≤ 65) _) c.u
      have ho : isOC v' = false := by simpa using h5
      refine ss_seti hu (okE o _ sc fc h1 c) (okE i _ sc fc h2 c) (okE v _ sc fc h3 c) h4 ?_ ?_
      · have := swaps_ok (env := X.env) (t := .Subscript o' i' p1) (e := v') (l := p2.line) hk c.sc ho
        rw [show swapsB sc v' (.Subscript o' i' p1) = false from by cases v' <;> rfl] at this
        exact this
      · exact swS_ok hk c.sc (show swS sc (.Subscript o' i' p1) v' = some none from by cases v' <;> rfl)
    · cases h
  | .raise_ x ms, s, h, X, c, hk, hp => by
    unfold chkS at h
    split at h
    · obtain ⟨h, h5⟩ := and2 h
      obtain ⟨h, h4⟩ := and2 h
      obtain ⟨h, h3⟩ := and2 h
      obtain ⟨h1, h2⟩ := and2 h
      have e1 := of_decide_eq_true h1
      subst e1
      split at h5
      · have e2 := of_decide_eq_true h5
        subst e2
        exact ss_raise c (of_decide_eq_true h2) h3 h4
      · cases h5
    · cases h
  | .brk, s, h, X, c, hk, hp => by
    unfold chkS at h
    split at h
    · exact ss_brk
    · cases h
  | .cnt, s, h, X, c, hk, hp => by
    unfold chkS at h
    split at h
    · exact ss_cnt
    · cases h
  | .nev, s, h, X, c, hk, hp => ss_nev
  | .tryr i b tab, s, h, X, c, hk, hp => by
    unfold chkS at h
    split at h
    · rename_i b' x p1 n f q1 n' q2 y q3 q4 q5 p2 p3
      obtain ⟨h, h12⟩ := and2 h
      obtain ⟨h, h11⟩ := and2 h
      obtain ⟨h, h10⟩ := and2 h
      obtain ⟨h, h9⟩ := and2 h
      obtain ⟨h, h8⟩ := and2 h
      obtain ⟨h, h7⟩ := and2 h
      obtain ⟨h, h6⟩ := and2 h
      obtain ⟨h, h5⟩ := and2 h
      obtain ⟨h, h4⟩ := and2 h
      obtain ⟨h, h3⟩ := and2 h
      obtain ⟨h1, h2⟩ := and2 h
      have en := of_decide_eq_true h5
      subst en
      exact ss_tryr c hp (by rw [c.n]; exact of_decide_eq_true h2) (by rw [c.sc]; exact of_decide_eq_true h3) h4 (c.blt h6 boot_isi (by decide) (by decide)) (c.gln h7) h8 (c.gln h9) h10 (fun z => by
        rw [z] at h11
        cases h11) (fun q hq => of_decide_eq_true (List.all_eq_true.mp h12 q hq)) fun pn xe hpa => okSs b _ h1 (c.tr' pn xe) hk ⟨hpa, hp.hs, hp.hf⟩
    · cases h
theorem okSs : ∀ (ms : List S) (ss : List Stmt), chkSs P N sc fc ms ss = true → ∀ {X : Cx}, Cok Γ X N sc fc P G C → sc.kind = .function → Bok X → SSs Γ X ss (execs G C W ms)
  | [], ss, h, X, c, hk, hp => by
    unfold chkSs at h
    split at h
    · exact sss_nil
    · cases h
  | m :: ms, ss, h, X, c, hk, hp => by
    unfold chkSs at h
    split at h
    · obtain ⟨h1, h2⟩ := and2 h
      exact sss_cons (okS m _ h1 c hk hp) (okSs ms _ h2 c hk hp)
    · cases h
end
end
end Mi
/-! Mini: the promise of a def that returns a list of lambdas. -/
namespace Mi
open PySem PySem.Spec PyProof.Rows L2
variable [Glb]
theorem env_start {K : PySem.W.Frag} {H : Hp} {L : Addr → Prop} {loc : Loc} {vs : List V} {ds : List D} {N : List Str} {nl : Nat} (r : Reps K H L loc vs ds) (h : ds.length + nl = N.length) : EnvR K H L loc (start N vs) (ds.map some ++ List.replicate nl none) := by
  have hl := r.length
  refine ⟨?_, fun i d e => ?_⟩
  · unfold L2.start
    simp only [List.length_append, List.length_map, List.length_replicate]
    omega
  · unfold L2.start
    by_cases q : i < ds.length
    · rw [List.getElem?_append_left (by rw [List.length_map]; exact q), List.getElem?_map] at e
      rw [List.getElem?_append_left (by rw [List.length_map, hl]; exact q), List.getElem?_map]
      obtain ⟨d', e1, e2⟩ := Option.map_eq_some_iff.mp e
      cases e2
      obtain ⟨v, h1, h2⟩ := r.get e1
      exact ⟨v, by rw [h1]; rfl, h2⟩
    · rw [List.getElem?_append_right (by rw [List.length_map]; omega)] at e
      rw [List.getElem?_replicate] at e
      split at e <;> cases e
theorem un_ovR {O : List (Addr × Obj)} {H H' : Hp} {h h' : Heap} {fs : List Addr} (un : Un fs [] H H' h h') (hn : NoO O H') (hs : ∀ b o, O.lookup b = some o → h.get? b = none) : Un fs [] H (ov O H') h h' where
  keep := un.keep
  slot := un.slot
  free := fun b ob e n nx => by
    cases q : O.lookup b with
    | some o =>
      rw [hs b o q] at e
      cases e
    | none =>
      rw [ov_no q]
      exact un.free b ob e n nx
  there := un.there
  tups := fun b xs e => OvOk.ext hn (un.tups b xs e)
  frzs := fun b ob xs e => OvOk.ext hn (un.frzs b ob xs e)
  tbls := fun b ps e => let ⟨more, z⟩ := un.tbls b ps e; ⟨more, OvOk.ext hn z⟩
theorem MkT.at_ {X : Cx} : ∀ {es : List Expr} {ks : List MkE}, MkT X es ks → ∀ k ∈ ks, ∃ lam pa body scope, Glb.t[k.i]? = some lam ∧ LamHere X lam pa body scope k.caps
  | _, _, .nil, k, h => by cases h
  | _, _, .cons h t, k, hk => by
    rcases List.mem_cons.mp hk with q | q
    · rw [q]
      cases h with
      | lam h1 h2 => exact ⟨_, _, _, _, h1, h2⟩
      | tup h1 h2 => exact ⟨_, _, _, _, h1, h2⟩
    · exact t.at_ k q
/-- the cells of a frame, as they stand -/
def frCells (cells : List (Str × Addr)) : List Addr := cells.filterMap fun p => cells.lookup p.1
theorem frCells_mem {cells : List (Str × Addr)} {c : Addr} : c ∈ frCells cells ↔ ∃ y, cells.lookup y = some c := by
  refine ⟨fun h => ?_, fun ⟨y, h⟩ => ?_⟩
  · obtain ⟨p, _, e⟩ := List.mem_filterMap.mp h
    exact ⟨p.1, e⟩
  · exact List.mem_filterMap.mpr ⟨(y, c), PySem.mem_of_lookup h, h⟩
section
variable {X : Cx} {Γ : Gam} {σ : L2.St} {H H2 : Hp} {s2 : Shared} {env : Env} {m : MH} {loc : Loc} {es : List Expr} {ks : List MkE}
theorem capO_of (I : Inv X [] σ H2 s2) (A : At Γ σ H env m loc) (ht : MkT X es ks) : CapO Γ.K H m loc X.env.cells (ovOf (frCells X.env.cells) s2.heap) env ks := by
  have cm : ∀ {lam : Lam} {pa : Arguments} {body : Expr} {scope : Scope} {caps : List Nat} {y : Str} {c : Addr}, LamHere X lam pa body scope caps → (cloFrom X.env.cells scope.names []).lookup y = some c → (y, NameKind.free) ∈ scope.names ∧ X.env.cells.lookup y = some c := fun {lam pa body scope caps y c} h e => by
    rcases cloFrom_mem (PySem.mem_of_lookup e) with z | ⟨z1, z2⟩
    · cases z
    · obtain ⟨c1, hc1⟩ := I.ok.has y (.inl (h.cp _ (h.fr _ z1 rfl)).2.1)
      refine ⟨z1, ?_⟩
      rw [z2, hc1] <;> rfl
  refine ⟨fun x y c h1 h2 => I.ok.inj x y c h1 h2, fun e he lam ds hlam hds => ?_, fun e he lam hlam y c hc => ?_⟩
  · obtain ⟨lam2, pa, body, scope, h1, h⟩ := ht.at_ e he
    rw [hlam] at h1
    cases h1
    obtain ⟨cl1, cl2⟩ := capsD_at hds
    have hys : (lam.N.drop lam.ps.length).length = ds.length := by
      have := congrArg List.length h.at_
      simpa [cl1] using this
    rw [h.sc]
    refine ⟨fun y hy => h.fr (y, .free) (PySem.mem_of_lookup hy) rfl, h.fr, fun y hy => (h.cp y hy).1.1, hys, fun j y d e1 e2 => ?_⟩
    have hym := List.mem_of_getElem? e1
    have hkind := (h.cp y hym).2.1
    obtain ⟨c, hc⟩ := mem_lookup (cloFrom_has (cells := X.env.cells) (acc := []) (h.cp y hym).1.2)
    have hcc := (cm h hc).2
    have hsl : ∃ ix, e.caps[j]? = some ix ∧ X.N[ix]? = some y := by
      have := congrArg (fun l => l[j]?) h.at_
      simp only [List.getElem?_map, e1, Option.map_some] at this
      cases z : e.caps[j]? with
      | none =>
        rw [z] at this
        cases this
      | some ix =>
        rw [z] at this
        exact ⟨ix, rfl, (Option.some.inj this).symm⟩
    obtain ⟨ix, z1, z2⟩ := hsl
    obtain ⟨v, hv1, hv2⟩ := A.2.at_ ix d (cl2 j ix d z1 e2)
    obtain ⟨mm, hns, hloc⟩ := I.loc
    obtain ⟨u, ru, lk⟩ := hloc ix y v z2 hv1 (.inr (.inl hkind))
    have hcell : s2.heap.IsCell c (some u) := by
      rcases lk with ⟨k0, _⟩ | ⟨_, c2, e3, z⟩
      · have k0 : X.env.scope.names.lookup y = some .local := k0
        rw [hkind] at k0
        cases k0
      · rw [hcc] at e3
        cases e3
        exact z
    obtain ⟨oc, ho, hdat⟩ := hcell
    exact ⟨c, oc, u, v, hcc, hc, ovOf_has (frCells_mem.mpr ⟨y, hcc⟩) ho, hdat, ru, hv2⟩
  · obtain ⟨lam2, pa, body, scope, h1, h⟩ := ht.at_ e he
    rw [hlam] at h1
    cases h1
    rw [h.sc] at hc
    obtain ⟨c1, c2⟩ := cm h hc
    exact ⟨c2, h.fr _ c1 rfl⟩
end
section
variable {P : Program} {w : World} {Γ : Gam} {mg : Str → Option Value} {base : Heap} {k nl : Nat} {f : Addr} {name qual : Str} {params : Arguments} {scope : Scope} {dV kV doc pm cdv ct oc : Value} {an od : Option Addr} {osl : Array (Option Value)} {N ps : List Str} {es : List Expr} {ks : List MkE} {lpos rpos : Pos} {call : List D → MH → R D}
/-- what a maker gives -/
def mkCall (nl : Nat) (ks : List MkE) (ds : List D) (m : MH) : R D := endF m.length (match mkCs (ds.map some ++ List.replicate nl none) ks with
  | some cs => some (.rt (.lst (mkRefs m.length ks)), m ++ cs)
  | none => none)
theorem fn_maker (lk : Γ.K.lookup f = some ⟨oc, od, .func (PySem.W.fnOf name qual params [.Return (some (.List es lpos)) rpos] scope dV kV doc pm an cdv ct), osl⟩) (hcd : PySem.W.codeIn Γ.K cdv qual = true) (S : FnScope N ps scope)
    (hN : ps.length + nl = N.length) (hlen : ks.length ≤ 1000) (hcall : ∀ ds m, ds.length = ps.length → call ds m = mkCall nl ks ds m)
    (hM : ∀ (A : Around) (outer : List PySem.Env) (s : Shared) (H : Hp) (E : XK), Room k (A.deeper (envOfC qual scope s.heap.objs.size f cdv)) → MakesAt (cxOf (L2N.CX P w) P w Γ.K mg base N qual scope f cdv A outer s H E) Γ ∧ MkT (cxOf (L2N.CX P w) P w Γ.K mg base N qual scope f cdv A outer s H E) es ks) :
    FnOk P w Γ.K mg base (L2N.CX P w) (k + 1) f (PySem.W.fnOf name qual params [.Return (some (.List es lpos)) rpos] scope dV kV doc pm an cdv ct) ps (spF Γ ps.length call) := by
  refine ⟨fun vs H Q E h => h.1, fun A outer s H args us vs Q E room env0 binds rel hsp => ?_⟩
  obtain ⟨hl, ds, m, loc, sim, reps, po⟩ := hsp
  have inK : Γ.K.In s.heap := env0.mod.kin.keeps fun b o e => (env0.bs b o e).1
  have noL : s.heap.NoLimit := env0.mod.nolimit.keeps fun b o e => (env0.bs b o e).1
  refine codeAny_call_function room.depth (inK _ _ lk) rfl S.co S.gen rfl (PySem.W.codeRec_of inK hcd) (binds _ _ _ _ ?_)
  refine wpAny_newFunctionEnv_cells S.kind (fun y hy => ?_) fun env he s1 x => ?_
  · rcases S.par y.1 (List.of_mem_zip hy).1 with q | q
    · exact .inl q
    · exact .inr ⟨q, PySem.W.cellsFrom_some _ _ _ (.inl q)⟩
  subst he
  refine ⟨noL.keeps x.toInCall.keep, codeAny_func ?_⟩
  have I := inv_start (CX := L2N.CX P w) (P := P) (w := w) (K := Γ.K) (mg := mg) (base := base) (N := N) (E := E) S room.hd env0 hl rel x
  obtain ⟨M, T⟩ := hM A outer s H E (room.deeper _)
  have hd : ds.length = ps.length := by rw [← hl, reps.length]
  have A0 : At Γ (L2.start N vs) H (ds.map some ++ List.replicate nl none) m loc := ⟨sim, env_start reps (by rw [hd]; exact hN)⟩
  rw [hcall ds m hd] at po
  unfold mkCall at po
  cases hcs : mkCs (ds.map some ++ List.replicate nl none) ks with
  | none =>
    rw [hcs] at po
    exact (show False from po).elim
  | some cs =>
  rw [hcs] at po
  have wish : tLst (tMkA Γ (cxOf (L2N.CX P w) P w Γ.K mg base N qual scope f cdv A outer s H E).env.cells ks) (L2.start N vs) H (fun v H2 => ∃ a xs fs, v = .ref a ∧ H2 a = some (.lst xs) ∧ H a = none ∧ xs.length ≤ LIM ∧ MkS Γ.K H m loc H2 fs ∧ MkL (cxOf (L2N.CX P w) P w Γ.K mg base N qual scope f cdv A outer s H E).env.cells H H2 xs ks fs) := by
    refine ⟨H, m, loc, [], ⟨sim, sim, Kp.refl _ _ _, fun _ _ => rfl, (fun a h => absurd h List.not_mem_nil), List.nodup_nil⟩, fun xs fs1 H' ms ext l => ?_⟩
    have z : xs.length ≤ LIM := by
      rw [l.length.1]
      exact Nat.le_trans hlen (by decide)
    exact ⟨lim_le z, fun p hp => ⟨p, xs, fs1, rfl, upd_same, ms.kp.back hp, z, ms.new hp, l.ext (extN_upd hp)⟩⟩
  refine wpAny_execs_cons (wpAny_Return_some (wpAny_mono ((pe_lst (pos := lpos) (pa_mk M T)).run [] s1 (L2.start N vs) H _ I wish) (fun u s2 hu => ?_) fun e s' hs => hs))
  obtain ⟨v, H2, I2, rv, a, xs, fs, rfl, ha, ha0, hz, ms, l⟩ := hu
  have cap := capO_of I2 A0 T
  have hO : ∀ c o, (ovOf (frCells (cxOf (L2N.CX P w) P w Γ.K mg base N qual scope f cdv A outer s H E).env.cells) s2.heap).lookup c = some o → s2.heap.get? c = some o ∧ ∃ y, (cxOf (L2N.CX P w) P w Γ.K mg base N qual scope f cdv A outer s H E).env.cells.lookup y = some c := fun c o e => by
    obtain ⟨h1, h2⟩ := ovOf_at e
    exact ⟨h1, frCells_mem.mp h2⟩
  generalize hOO : ovOf (frCells (cxOf (L2N.CX P w) P w Γ.K mg base N qual scope f cdv A outer s H E).env.cells) s2.heap = O at cap hO
  have no : NoO O H2 := fun c o e => by
    obtain ⟨_, y, hy⟩ := hO c o e
    exact I2.freeC y c hy
  obtain ⟨f1, f2, f3, f4⟩ := mk_fin ms l hcs no cap
  have rd : RepM Γ.K (ov O H2) (m ++ cs) (loc.mk2 fs) (.ref a) (.lst (mkRefs m.length ks)) := .lst (OvOk.ext no ha) (f3 a xs ha ha0) hz f4
  obtain ⟨l2, s2', k2, r2⟩ := cut_ok sim.len f1 f2 rd
  have q := (show Po Γ E H m loc (rlD Γ) (.ok (.lst (mkRefs m.length ks)) (cutM m.length (.lst (mkRefs m.length ks)) (m ++ cs))) Q from po) _ _ _ s2' k2 r2
  exact ⟨.ref a, ov O H2, I2.os, I2.bare, un_ovR I2.base no (fun c o e => by
    obtain ⟨_, y, hy⟩ := hO c o e
    have hge := I2.ok.cab y c rfl hy
    cases z : s.heap.get? c with
    | none => rfl
    | some o2 => exact absurd (Nat.lt_of_lt_of_le (Heap.lt_size z) hge) (Nat.lt_irrefl _)), hok_up I2.hok (fun c o e => (hO c o e).1) no, rv, q⟩
end
end Mi
/-! Mini: defs that call one another. -/
namespace Mi
open PySem PySem.Spec PyProof.Rows L2
variable [Glb]
/-! ### defs -/
structure Ent where
  x : Str
  pa : Arguments
  body : List Stmt
  scope : Scope
  N : List Str
  ps : List Str
  fd : FD
  /-- a method's class; defaults -/
  cl : Option Str := none
  dfl : List He.Dv := []
  pr : Bool := false
  cm : Bool := false
/-- a property's getter -/
def prG (K : PySem.W.Frag) (p : Addr) : Addr := match PySem.W.recIn K p "property" with
  | some (.ref g :: _) => g
  | _ => 0
def Ent.adr (K : PySem.W.Frag) (e : Ent) : Addr := match e.cl with
  | none => He.ga K e.x
  | some c => (match e.cm with
    | true => He5.wf K (He.ga K c) "classmethod" e.x
    | false => (match e.pr with
      | false => He.ma K (He.ga K c) e.x
      | true => prG K (He.ma K (He.ga K c) e.x)))
def Ent.qual (e : Ent) : Str := match e.cl with
  | none => e.x
  | some c => c ++ "." ++ e.x
def Ent.dvs (K : PySem.W.Frag) (e : Ent) : List V := e.dfl.map (He.Dv.v K)
/-- what a call takes of the room -/
def lv (I : Info) (k : Nat) : Nat := if I.obs.isEmpty then k + 2 else 2 * k + 2
def dl (I : Info) : Nat := if I.obs.isEmpty then 0 else 1
theorem lv_succ (I : Info) (k : Nat) : lv I (k + 1) = (lv I k + dl I) + 1 := by
  unfold lv dl
  split <;> omega
theorem two_le (I : Info) (k : Nat) : 2 ≤ lv I k + dl I := by
  unfold lv dl
  split <;> omega
theorem dl_one {I : Info} {q : Ob} (h : q ∈ I.obs) : dl I = 1 := by
  unfold dl
  rw [if_neg]
  intro z
  rw [List.isEmpty_iff.mp z] at h
  cases h
def scB (N ps : List Str) (sc : Scope) : Bool :=
  decide (sc.kind = .function) && decide (sc.isCoroutine = false) && decide (sc.isGenerator = false) && decide N.Nodup && decide (N.take ps.length = ps) && (ps.all fun x => decide (sc.names.lookup x = some .local) || decide (sc.names.lookup x = some .cell)) && (sc.names.all fun y => decide (y.2 ≠ .free))
theorem scB_ok {N ps : List Str} {sc : Scope} (h : scB N ps sc = true) : FnScope N ps sc := by
  obtain ⟨h, h7⟩ := and2 h
  obtain ⟨h, h6⟩ := and2 h
  obtain ⟨h, h5⟩ := and2 h
  obtain ⟨h, h4⟩ := and2 h
  obtain ⟨h, h3⟩ := and2 h
  obtain ⟨h1, h2⟩ := and2 h
  refine ⟨of_decide_eq_true h1, of_decide_eq_true h2, of_decide_eq_true h3, of_decide_eq_true h4, of_decide_eq_true h5, fun x hx => ?_, fun y hy => of_decide_eq_true (List.all_eq_true.mp h7 y hy)⟩
  rcases Bool.or_eq_true_iff.mp (List.all_eq_true.mp h6 x hx) with q | q
  · exact .inl (of_decide_eq_true q)
  · exact .inr (of_decide_eq_true q)
def mkT1B (I : Info) (N : List Str) (sc : Scope) (k : MkE) : Expr → Bool
  | .Lambda pa body scope _ => k.w.isNone && lamB I N sc (fun _ => true) k.i k.caps pa body scope
  | .Tuple [.Constant (.str z) _ _, .Lambda pa body scope _] _ _ => decide (k.w = some z) && lamB I N sc (fun _ => true) k.i k.caps pa body scope
  | _ => false
def mkTB (I : Info) (N : List Str) (sc : Scope) : List MkE → List Expr → Bool
  | [], [] => true
  | k :: ks, e :: es => mkT1B I N sc k e && mkTB I N sc ks es
  | _, _ => false
/-- the body is a maker's -/
def mkrB (I : Info) (N : List Str) (sc : Scope) (ks : List MkE) : List Stmt → Bool
  | [.Return (some (.List es _)) _] => mkTB I N sc ks es && decide (ks.length ≤ 1000) && (I.mks.lookup sc).isSome
  | _ => false
def bodyB (I : Info) (N : List Str) (sc : Scope) (b : List S) (body : List Stmt) : Bool := match b with
  | [.mks ks] => mkrB I N sc ks body
  | b => chkSs I N sc (fun _ => true) b body
theorem bodyB_ok {I : Info} {N : List Str} {sc : Scope} {b : List S} {body : List Stmt} (h : bodyB I N sc b body = true) :
    (∃ ks es lp rp, b = [.mks ks] ∧ body = [.Return (some (.List es lp)) rp] ∧ mkTB I N sc ks es = true ∧ ks.length ≤ 1000 ∧ ∃ z, I.mks.lookup sc = some z) ∨ chkSs I N sc (fun _ => true) b body = true := by
  unfold bodyB at h
  split at h
  · rename_i ks
    unfold mkrB at h
    split at h
    · rename_i es lp rp
      obtain ⟨h, h3⟩ := and2 h
      obtain ⟨h1, h2⟩ := and2 h
      exact .inl ⟨ks, es, lp, rp, rfl, rfl, h1, of_decide_eq_true h2, Option.isSome_iff_exists.mp h3⟩
    · cases h
  · exact .inr h
theorem mkT_ok {Γ : Gam} {X : Cx} {N : List Str} {sc : Scope} {I : Info} {G : Nat → Option D} {C : Call} (c : Cok Γ X N sc (fun _ => true) I G C) : ∀ {ks : List MkE} {es : List Expr}, mkTB I N sc ks es = true → MkT X es ks
  | [], [], _ => .nil
  | [], _ :: _, h => by cases h
  | _ :: _, [], h => by cases h
  | ⟨w, i, caps⟩ :: ks, e :: es, h => by
    obtain ⟨h1, h2⟩ := and2 h
    refine .cons ?_ (mkT_ok c h2)
    unfold mkT1B at h1
    split at h1
    · obtain ⟨q1, q2⟩ := and2 h1
      have q1 : w = none := Option.isNone_iff_eq_none.mp q1
      subst q1
      obtain ⟨lam, e1, _, e2⟩ := lamB_ok c q2
      exact .lam e1 e2
    · obtain ⟨q1, q2⟩ := and2 h1
      have q1 : w = some _ := of_decide_eq_true q1
      subst q1
      obtain ⟨lam, e1, _, e2⟩ := lamB_ok c q2
      exact .tup e1 e2
    · cases h1
def entB (I : Info) (e : Ent) : Bool := scB e.N e.ps e.scope && decide (e.fd.np = e.ps.length) && decide (e.fd.np + e.fd.nl = e.N.length) && bodyB I e.N e.scope e.fd.body e.body
/-- the j-th lambda of a maker's text -/
def mkLam (st : Stmt) (j : Nat) (x : Str) (N : List Str) : Lam :=
  let none' : Lam := ⟨x, ⟨[], [], none, [], [], none, []⟩, [], .Constant .none 0 ⟨0, 0, 0, 0⟩, ⟨.module, [], false, false, []⟩, N⟩
  match st with
  | .FunctionDef _ _ [.Return (some (.List es _)) _] _ _ _ _ _ _ _ => (match es[j]? with
    | some (.Lambda pa body scope _) => ⟨x ++ ".<locals>." ++ "<lambda>", pa, [], body, scope, N⟩
    | some (.Tuple [_, .Lambda pa body scope _] _ _) => ⟨x ++ ".<locals>." ++ "<lambda>", pa, [], body, scope, N⟩
    | _ => none')
  | _ => none'
/-- the lambdas of a text, from the left -/
def lamsE : Nat → Expr → List (Arguments × Expr × Scope)
  | 0, _ => []
  | n + 1, e => match e with
    | .Lambda pa body scope _ => (pa, body, scope) :: lamsE n body
    | .Call f es _ _ => lamsE n f ++ es.flatMap (lamsE n)
    | .Compare l _ rs _ => lamsE n l ++ rs.flatMap (lamsE n)
    | .BoolOp _ es _ => es.flatMap (lamsE n)
    | .UnaryOp _ a _ => lamsE n a
    | .BinOp a _ b _ => lamsE n a ++ lamsE n b
    | .IfExp t a b _ => lamsE n t ++ lamsE n a ++ lamsE n b
    | .List es _ => es.flatMap (lamsE n)
    | .Tuple es _ _ => es.flatMap (lamsE n)
    | _ => []
def lamsS : Nat → Stmt → List (Arguments × Expr × Scope)
  | 0, _ => []
  | n + 1, s => match s with
    | .Assign _ e _ => lamsE n e
    | .Return (some e) _ => lamsE n e
    | .Expr e _ => lamsE n e
    | .If t a b _ => lamsE n t ++ a.flatMap (lamsS n) ++ b.flatMap (lamsS n)
    | .For _ it b _ _ => lamsE n it ++ b.flatMap (lamsS n)
    | .While t b _ _ => lamsE n t ++ b.flatMap (lamsS n)
    | _ => []
def mkLamN (b : List Stmt) (j : Nat) (x : Str) (N : List Str) : Lam := match (b.flatMap (lamsS 30))[j]? with
  | some (pa, body, scope) => ⟨x ++ ".<locals>." ++ "<lambda>", pa, [], body, scope, N⟩
  | none => ⟨x, ⟨[], [], none, [], [], none, []⟩, [], .Constant .none 0 ⟨0, 0, 0, 0⟩, ⟨.module, [], false, false, []⟩, N⟩
/-- a lambda and its term -/
structure LE where
  lam : Lam
  e : E
def leB (I : Info) (l : LE) : Bool := decide (l.lam.scope.kind = .function) && decide (l.lam.scope.isCoroutine = false) && decide (l.lam.scope.isGenerator = false) && decide l.lam.N.Nodup && l.lam.ps.isEmpty && (l.lam.scope.names.all fun y => decide (y.2 ≠ .cell)) && argB l.lam.pa l.lam.pa &&
  decide (I.mks.lookup l.lam.scope = none) && chkE I l.lam.N l.e l.lam.body l.lam.scope (fun _ => false)
theorem args0 (a : Arguments) (h : argB a a = true) : a = ⟨[], [], none, [], [], none, []⟩ := by
  obtain ⟨a1, a2, a3, a4, a5, a6, a7⟩ := a
  obtain ⟨h, _⟩ := and2 h
  obtain ⟨h, h7⟩ := and2 h
  obtain ⟨h, h6⟩ := and2 h
  obtain ⟨h, h5⟩ := and2 h
  obtain ⟨h, h4⟩ := and2 h
  obtain ⟨h, h3⟩ := and2 h
  obtain ⟨h1, h2⟩ := and2 h
  have g1 : a1 = [] := List.isEmpty_iff.mp h1
  have g2 : a2 = [] := List.isEmpty_iff.mp h2
  have g3 : a3 = none := Option.isNone_iff_eq_none.mp h3
  have g4 : a4 = [] := List.isEmpty_iff.mp h4
  have g5 : a5 = [] := List.isEmpty_iff.mp h5
  have g6 : a6 = none := Option.isNone_iff_eq_none.mp h6
  have g7 : a7 = [] := List.isEmpty_iff.mp h7
  rw [g1, g2, g3, g4, g5, g6, g7]
theorem leB_ok {I : Info} {l : LE} (h : leB I l = true) : LamW l.lam ∧ I.mks.lookup l.lam.scope = none ∧ chkE I l.lam.N l.e l.lam.body l.lam.scope (fun _ => false) = true := by
  obtain ⟨h, h9⟩ := and2 h
  obtain ⟨h, h8⟩ := and2 h
  obtain ⟨h, h7⟩ := and2 h
  obtain ⟨h, h6⟩ := and2 h
  obtain ⟨h, h5⟩ := and2 h
  obtain ⟨h, h4⟩ := and2 h
  obtain ⟨h, h3⟩ := and2 h
  obtain ⟨h1, h2⟩ := and2 h
  have e := List.isEmpty_iff.mp h5
  refine ⟨⟨of_decide_eq_true h1, of_decide_eq_true h2, of_decide_eq_true h3, of_decide_eq_true h4, by rw [e]; rfl, fun y hy => of_decide_eq_true (List.all_eq_true.mp h6 y hy), (fun x hx => by rw [e] at hx; cases hx), fun cl pm cv ctv us hl => ?_⟩, of_decide_eq_true h8, h9⟩
  rw [e] at hl ⊢
  have hu : us = [] := List.length_eq_zero_iff.mp hl
  rw [hu, args0 _ h7]
  rfl
def tabT (tab : List Ent) (ls : List LE) (i : Nat) : Option FD := match tab[i]? with
  | some e => some e.fd
  | none => if LB ≤ i then (ls[i - LB]?).map fun l => ⟨l.lam.N.length, 0, [.ret l.e]⟩ else none
/-- a def that makes lambdas: its code object, its table -/
def MkAt (Γ : Gam) (base : Heap) (mg : Str → Option Value) (I : Info) (tab : List Ent) : Prop := ∀ e ∈ tab, ∀ z, I.mks.lookup e.scope = some z → z = e.qual ++ ".<locals>." ∧
  ∀ (c : Addr) (oc : Value) (od : Option Addr) (fd : FuncData) (osl : Array (Option Value)), Γ.K.lookup (e.adr Γ.K) = some ⟨oc, od, .func fd, osl⟩ → fd.code = .ref c →
    ∃ P, LamX.TabB base mg c P ∧ (P, z ++ "<lambda>") ∈ Glb.T Γ.K ∧ ∀ p ∈ Glb.T Γ.K, p.1 = P → p.2 = z ++ "<lambda>"
/-- the def of a class -/
def EntC (tab : List Ent) (K : PySem.W.Frag) (f n : Nat) (g : Addr) : Prop := ∃ e, tab[f]? = some e ∧ e.ps.length = n ∧ e.adr K = g
/-- .. the last parameters by their defaults -/
def EntCd (tab : List Ent) (K : PySem.W.Frag) (f n : Nat) (dfl : List D) (g : Addr) : Prop := ∃ e fd, tab[f]? = some e ∧ e.ps.length = n + dfl.length ∧ e.adr K = g ∧ FunD K e.x e.qual e.pa e.body e.scope (e.dvs K) [] (e.adr K) fd ∧ ∃ (ds : List Value) (vs : List V), Binds K fd e.ps ds ∧ Vals vs ds ∧ ∀ H L loc, Reps K H L loc vs dfl
def ClsF (Γ : Gam) (k : Nat) (p : Addr → Prop) : Prop := ∃ a, (Glb.k Γ.K)[k]? = some a ∧ p a
def ObF (Γ : Gam) (mg : Str → Option Value) (tab : List Ent) : Ob → Prop
  | .cls k => ClsF Γ k fun a => Cls Γ.K a
  | .noat k x => ClsF Γ k fun a => NoAttr Γ.K a x
  | .meth x k f n => ClsF Γ k fun a => ∃ g, Meth Γ.K a x g ∧ EntC tab Γ.K f n g
  | .prop x k f => ClsF Γ k fun a => ∃ p g, PropOf Γ.K a x p g ∧ EntC tab Γ.K f 1 g
  | .make x k f n => ClsF Γ k fun a => ∃ g, Mk Γ.K a g ∧ mg x = some (.ref a) ∧ EntC tab Γ.K f n g
  | .get k f => ClsF Γ k fun a => ∃ g, PySem.W.findIn Γ.K (.ref a) "__getitem__" = some (some (.ref g)) ∧ PySem.W.fnIn Γ.K g = true ∧ PySem.W.isFn Γ.K (.ref g) = true ∧ EntC tab Γ.K f 2 g
  | .eq k f => ClsF Γ k fun a => ∃ g, PySem.W.findIn Γ.K (.ref a) "__eq__" = some (some (.ref g)) ∧ PySem.W.isFn Γ.K (.ref g) = true ∧ EntC tab Γ.K f 2 g
  | .len k f => ClsF Γ k fun a => ∃ g, PySem.W.findIn Γ.K (.ref a) "__len__" = some (some (.ref g)) ∧ PySem.W.isFn Γ.K (.ref g) = true ∧ EntC tab Γ.K f 1 g
  | .iop o k f => ClsF Γ k fun a => PySem.W.selfFirst Γ.K a = true ∧ ∃ g, PySem.W.findIn Γ.K (.ref a) (dunderI (opOf o).info.2) = some (some (.ref g)) ∧ PySem.W.isFn Γ.K (.ref g) = true ∧ EntC tab Γ.K f 2 g
  | .isc x k => ClsF Γ k fun a => IscC Γ.K a ∧ mg x = some (.ref a)
  | .bin o k f => ClsF Γ k fun a => ∃ g, BinC Γ.K a (opOf o).info.2 g ∧ EntC tab Γ.K f 2 g
  | .call k f => ClsF Γ k fun a => ∃ g, PySem.W.findIn Γ.K (.ref a) "__call__" = some (some (.ref g)) ∧ PySem.W.isFn Γ.K (.ref g) = true ∧ PySem.W.fnIn Γ.K g = true ∧ EntC tab Γ.K f 2 g
  | .cmet q x k f n => ClsF Γ k fun a => ∃ mc pp g, ClX.CRead Γ.K a mc ∧ ClX.CMet Γ.K a mc x pp g ∧ mg q = some (.ref a) ∧ EntC tab Γ.K f n g
  | .maked x k f n dfl => ClsF Γ k fun a => ∃ g, Mk Γ.K a g ∧ mg x = some (.ref a) ∧ EntCd tab Γ.K f n (dfl.map Df.d) g
  | .gix x ys => ∃ (q : Addr) (o : Obj), mg x = some (.ref q) ∧ Γ.K.lookup q = some o ∧ o.cls = .type "tuple" ∧ o.dict = none ∧ WrT Γ.K q (ys.map V.str)
structure Facts (Γ : Gam) (mg : Str → Option Value) (G : Nat → Option D) (I : Info) (tab : List Ent) (lams : List LE) : Prop where
  len : tab.length ≤ LB
  lm : I.lams = Glb.t
  ls : ∀ (i : Nat) (lam : Lam), Glb.t[i]? = some lam → ∃ l : LE, lams[i]? = some l ∧ l.lam = lam
  lok : ∀ l ∈ lams, leB I l = true
  fns : ∀ x f n, I.fns.lookup x = some (f, n) → ∃ e, tab[f]? = some e ∧ e.x = x ∧ n = e.ps.length ∧ mg e.x = some (.ref (e.adr Γ.K))
  def_ : ∀ (i : Nat) (e : Ent), tab[i]? = some e → ∃ (fd : FuncData), FunD Γ.K e.x e.qual e.pa e.body e.scope (e.dvs Γ.K) [] (e.adr Γ.K) fd ∧ Binds Γ.K fd e.ps []
  ok : ∀ e ∈ tab, entB I e = true
  gl : ∀ x j, I.glb.lookup x = some j → ∃ u v d, mg x = some u ∧ RelV v u ∧ G j = some d ∧ ∀ H L loc, Rep Γ.K H L loc v d
  bl : ∀ x ∈ I.blt, mg x = none
  ex : ∀ x ∈ I.exc, ∃ (Ca : Addr) (bmB : List Value) (B newId initId : String), ExcBaseFacts B newId initId bmB ∧ PySem.W.excIn Γ.K Ca bmB newId = true ∧ mg x = some (.ref Ca) ∧ PySem.W.keepIn Γ.K (.ref Ca) = true ∧
    (PySem.W.subIn Γ.K (.ref Ca) (.type "BaseException") = some true ∧ PySem.W.typeIn Γ.K (.ref Ca) = some (.type "type")) ∧ ∀ (z : Str) H, Γ.XR ⟨x, some (.str z)⟩ (.ref Ca) none H
  tr : ∀ q ∈ I.trs, ∃ (De Ce Cy : Addr), (∀ a cls d H, Γ.XR ⟨q.1, a⟩ cls d H → cls = .ref De ∧ DX d H) ∧ mg q.2.1 = some (.ref Ce) ∧ mg q.2.2.1 = some (.ref Cy) ∧ PySem.W.exmOne Γ.K (.ref De) (.ref Ce) = some true ∧ PySem.W.kitOne Γ.K (.ref De) (.ref Cy) = some q.2.2.2 ∧ ExcC Γ.K De
  tv : ∀ q ∈ I.tvs, ∃ De : Addr, (∀ a cls d H, Γ.XR ⟨q.1, a⟩ cls d H → cls = .ref De ∧ DX d H) ∧ PySem.W.kitOne Γ.K (.ref De) (.type "ValueError") = some q.2
  ob : ∀ q ∈ I.obs, ObF Γ mg tab q
  tk : ∀ q ∈ I.trk, ∃ (De Ce : Addr), (∀ a cls d H, Γ.XR ⟨q.1, a⟩ cls d H → cls = .ref De) ∧ mg q.2.1 = some (.ref Ce) ∧ PySem.W.exmOne Γ.K (.ref De) (.ref Ce) = some q.2.2
  ini : ∀ x ∈ I.ini, MX.XinF Γ.K mg x I.file ∧ ExcC Γ.K (He.ga Γ.K x) ∧ ∀ i cls d H, Γ.XR ⟨x, some (.int i)⟩ cls d H ↔ cls = .ref (He.ga Γ.K x) ∧ ∃ dx, d = some dx ∧ H dx = some (.xd [("line", .int i)])
/-- what the law's own text must say, so that an exception with a line can be raised -/
def FileOk (P : Program) (I : Info) : Prop := I.ini = [] ∨ (((P.main.file : Str) == I.file) = true ∧ (P.main.scope.names.lookup ("super" : Str)).isSome = false)
theorem ini_of {P : Program} {w : World} {base : Heap} {Γ : Gam} {mg : Str → Option Value} {I : Info} (hF : FileOk P I) {X : Cx} (h1 : X.prog = P) (h2 : X.w = w) (h3 : X.K = Γ.K) (h4 : X.mg = mg) (h5 : X.base = base) (hr : Room 2 X.A)
    (h : ∀ x ∈ I.ini, MX.XinF Γ.K mg x I.file ∧ ExcC Γ.K (He.ga Γ.K x) ∧ ∀ i cls d H, Γ.XR ⟨x, some (.int i)⟩ cls d H ↔ cls = .ref (He.ga Γ.K x) ∧ ∃ dx, d = some dx ∧ H dx = some (.xd [("line", .int i)])) : ∀ x ∈ I.ini, InitX X Γ x := fun x hx => by
  rcases hF with z | ⟨f1, f2⟩
  · rw [z] at hx
    cases hx
  · obtain ⟨⟨f, fd, g1, g2, g3, g4, g5, g6, g7⟩, g8, g9⟩ := h x hx
    refine ⟨He.ga Γ.K x, f, fd, 1, by rw [h3]; exact g1, by rw [h3]; exact g2, by rw [h3]; exact g3, by rw [h4]; exact g4, by rw [h3]; exact g5, by rw [h3]; exact g6, hr, ?_, by rw [h3]; exact g8, g9⟩
    rw [h1, h2, h3, h4, h5]
    exact g7 _ P w base 0 f1 f2
section
variable {Γ : Gam} {mg : Str → Option Value} {G : Nat → Option D} {I : Info} {tab : List Ent} {lams : List LE} {P : Program} {w : World} {base : Heap} {W : Nat}
theorem FnM.of {X : Cx} {x : Str} {n k : Nat} {fa : Addr} {fd : FuncData} {ps : List Str} {call : List D → MH → R D} (h1 : X.mg x = some (.ref fa)) (h2 : PySem.W.keepIn X.K (.ref fa) = true) (h3 : Binds X.K fd ps []) (h4 : Room k X.A) (h5 : FnOk X.prog X.w X.K X.mg X.base (L2N.CX X.prog X.w) k fa fd ps (spF Γ n call)) : FnM X Γ x n call := ⟨k, fa, fd, ps, h1, h2, h3, h4, h5⟩
theorem envR_map {K : PySem.W.Frag} {H : Hp} {L : Addr → Prop} {loc : Loc} {vs : List V} {ds : List D} (r : Reps K H L loc vs ds) : EnvR K H L loc (vs.map some) (ds.map some) := by
  refine ⟨by rw [List.length_map, List.length_map, r.length], fun i d e => ?_⟩
  rw [List.getElem?_map] at e ⊢
  obtain ⟨d', e1, e2⟩ := Option.map_eq_some_iff.mp e
  cases e2
  obtain ⟨v, h1, h2⟩ := r.get e1
  exact ⟨v, by rw [h1]; rfl, h2⟩
theorem ent_c (F : Facts Γ mg G I tab lams) {X : Cx} {k f n : Nat} {g : Addr} (ih : ∀ (i : Nat) (e : Ent), tab[i]? = some e → ∀ (fd : FuncData), FunD Γ.K e.x e.qual e.pa e.body e.scope (e.dvs Γ.K) [] (e.adr Γ.K) fd →
      FnOk X.prog X.w X.K X.mg X.base (L2N.CX X.prog X.w) (lv I k) (e.adr Γ.K) fd e.ps (spF Γ e.ps.length (callF G (tabT tab lams) W k i))) (hK : X.K = Γ.K) (hr : Room (lv I k + 1) X.A) (h : EntC tab Γ.K f n g) : FnA X Γ g n (callF G (tabT tab lams) W k f) := by
  obtain ⟨e, h1, h2, h3⟩ := h
  obtain ⟨fd, g2, g3⟩ := F.def_ f e h1
  subst h2 h3
  exact ⟨lv I k, fd, e.ps, hK ▸ g3, hr, ih f e h1 fd g2⟩
theorem ob_of (F : Facts Γ mg G I tab lams) {X : Cx} {k : Nat} (ih : ∀ (i : Nat) (e : Ent), tab[i]? = some e → ∀ (fd : FuncData), FunD Γ.K e.x e.qual e.pa e.body e.scope (e.dvs Γ.K) [] (e.adr Γ.K) fd →
      FnOk X.prog X.w X.K X.mg X.base (L2N.CX X.prog X.w) (lv I k) (e.adr Γ.K) fd e.ps (spF Γ e.ps.length (callF G (tabT tab lams) W k i))) (hK : X.K = Γ.K) (hmg : X.mg = mg) (hr : Room (lv I k + dl I) X.A) : ∀ q ∈ I.obs, ObOk X Γ (callF G (tabT tab lams) W k) q := fun q hq => by
  have hf := F.ob q hq
  rw [dl_one hq] at hr
  have go : ∀ {f n : Nat} {g : Addr}, EntC tab Γ.K f n g → FnA X Γ g n (callF G (tabT tab lams) W k f) := fun h => ent_c F ih hK hr h
  cases q with
  | cls k' =>
    obtain ⟨a, h1, h2⟩ := hf
    exact ⟨a, h1, by rw [hK]; exact h2⟩
  | noat k' x =>
    obtain ⟨a, h1, h2⟩ := hf
    exact ⟨a, h1, by rw [hK]; exact h2⟩
  | meth x k' f n =>
    obtain ⟨a, h1, g, h2, h3⟩ := hf
    exact ⟨a, h1, g, by rw [hK]; exact h2, go h3⟩
  | prop x k' f =>
    obtain ⟨a, h1, p, g, h2, h3⟩ := hf
    exact ⟨a, h1, p, g, by rw [hK]; exact h2, go h3⟩
  | make x k' f n =>
    obtain ⟨a, h1, g, h2, h3, h4⟩ := hf
    exact ⟨a, h1, g, by rw [hK]; exact h2, by rw [hmg]; exact h3, go h4⟩
  | get k' f =>
    obtain ⟨a, h1, g, h2, h3, h4, h5⟩ := hf
    exact ⟨a, h1, g, by rw [hK]; exact h2, by rw [hK]; exact h3, by rw [hK]; exact h4, go h5⟩
  | eq k' f =>
    obtain ⟨a, h1, g, h2, h3, h4⟩ := hf
    exact ⟨a, h1, g, by rw [hK]; exact h2, by rw [hK]; exact h3, go h4⟩
  | len k' f =>
    obtain ⟨a, h1, g, h2, h3, h4⟩ := hf
    exact ⟨a, h1, g, by rw [hK]; exact h2, by rw [hK]; exact h3, go h4⟩
  | iop o k' f =>
    obtain ⟨a, h1, h0, g, h2, h3, h4⟩ := hf
    exact ⟨a, h1, by rw [hK]; exact h0, g, by rw [hK]; exact h2, by rw [hK]; exact h3, go h4⟩
  | bin o k' f =>
    obtain ⟨a, h1, g, h2, h3⟩ := hf
    exact ⟨a, h1, g, by rw [hK]; exact h2, go h3⟩
  | call k' f =>
    obtain ⟨a, h1, g, h2, h3, h4, h5⟩ := hf
    exact ⟨a, h1, g, by rw [hK]; exact h2, by rw [hK]; exact h3, by rw [hK]; exact h4, go h5⟩
  | cmet q x k' f n =>
    obtain ⟨a, h1, mc, pp, g, h2, h3, h4, h5⟩ := hf
    exact ⟨a, h1, mc, pp, g, by rw [hK]; exact h2, by rw [hK]; exact h3, by rw [hmg]; exact h4, go h5⟩
  | maked x k' f n dfl =>
    obtain ⟨a, h1, g, h2, h3, e, fd, g1, g2, g3, g4, ds, vs, g5, g6, g7⟩ := hf
    subst g3
    refine ⟨a, h1, _, by rw [hK]; exact h2, by rw [hmg]; exact h3, lv I k, fd, e.ps, ds, vs, by rw [hK]; exact g5, g6, g7, hr, ?_⟩
    rw [← g2]
    exact ih f e g1 fd g4
  | gix x ys =>
    obtain ⟨q, o, h1, h2, h3⟩ := hf
    exact ⟨q, o, by rw [hmg]; exact h1, by rw [hK]; exact h2, by rw [hK]; exact h3⟩
  | isc x k' =>
    obtain ⟨a, h1, h2, h3⟩ := hf
    exact ⟨a, h1, by rw [hK]; exact h2, by rw [hmg]; exact h3⟩
theorem all_ok (F : Facts Γ mg G I tab lams) (hM : MkAt Γ base mg I tab) (hFl : FileOk P I) : ∀ k : Nat,
    (∀ (i : Nat) (e : Ent), tab[i]? = some e → ∀ (fd : FuncData), FunD Γ.K e.x e.qual e.pa e.body e.scope (e.dvs Γ.K) [] (e.adr Γ.K) fd →
      FnOk P w Γ.K mg base (L2N.CX P w) (lv I k) (e.adr Γ.K) fd e.ps (spF Γ e.ps.length (callF G (tabT tab lams) W k i))) ∧
    ∀ (i : Nat) (l : LE), lams[i]? = some l → LamP P w Γ mg base (lv I k) l.lam (callF G (tabT tab lams) W k (LB + i))
  | 0 => ⟨fun i e he fd hF => ⟨fun vs H Q E h => h.1, fun A outer s H args us vs Q E _ _ _ _ h => by
      obtain ⟨_, ds, m, loc, _, _, p⟩ := h
      exact (show False from p).elim⟩, fun i l hl A outer s O H f c' cl pm ctv us vs ws dargs dcap m loc E Q _ _ _ _ _ _ _ _ _ _ p => (show False from p).elim⟩
  | k + 1 => by
    obtain ⟨ihF, ihL⟩ := all_ok F hM hFl k
    rw [lv_succ]
    refine ⟨fun i e he fd hF => ?_, fun i l hl => ?_⟩
    · have hB := F.ok e (List.mem_of_getElem? he)
      obtain ⟨hB, b4⟩ := and2 hB
      obtain ⟨hB, b3⟩ := and2 hB
      obtain ⟨b1, b2⟩ := and2 hB
      have hsc := scB_ok b1
      have b2 : e.fd.np = e.ps.length := of_decide_eq_true b2
      have b3 : e.fd.np + e.fd.nl = e.N.length := of_decide_eq_true b3
      obtain ⟨oc, od, dV, kV, doc, pm, an, cdv, ct, osl, rfl, lk, hcd, _, _⟩ := hF.ex
      have hC : ∀ (A : Around) (outer : List PySem.Env) (s : Shared) (H : Hp) (E : XK), Room (lv I k + dl I) (A.deeper (envOfC e.qual e.scope s.heap.objs.size (e.adr Γ.K) cdv)) → Cok Γ (cxOf (L2N.CX P w) P w Γ.K mg base e.N e.qual e.scope (e.adr Γ.K) cdv A outer s H E) e.N e.scope (fun _ => true) I G (callF G (tabT tab lams) W k) := fun A outer s H E hr => by
        refine ⟨rfl, hsc.nd, rfl, rfl, rfl, ?_, fun _ _ => rfl, fun x f n hx => ?_, F.gl, F.bl, fun x hx => ?_, F.tr, F.tv, fun z hz => ?_, F.lm, ⟨fun i lam h => ?_, fun i lam h => ?_⟩, ob_of F ihF rfl rfl hr, F.tk, ini_of hFl rfl rfl rfl rfl rfl (hr.mono (two_le I k)) F.ini⟩
        · have := hr.un
          show (A.deeper (envOfC e.qual e.scope s.heap.objs.size (e.adr Γ.K) cdv)).units + 65 < cLine
          omega
        · obtain ⟨e', h1, h2, h3, g1⟩ := F.fns x f n hx
          obtain ⟨fd', g2, g3⟩ := F.def_ f e' h1
          subst h2 h3
          exact FnM.of g1 g2.kp g3 (hr.mono (Nat.le_add_right _ _)) (ihF f e' h1 fd' g2)
        · obtain ⟨Ca, bmB, B, newId, initId, x1, x2, x3, x4, ⟨x5, x6⟩, x7⟩ := F.ex x hx
          exact ⟨Ca, bmB, B, newId, initId, x1, x2, x3, x4, raises_own x5 x6, x7⟩
        · obtain ⟨z1, z2⟩ := hM e (List.mem_of_getElem? he) z hz
          obtain ⟨c, hc⟩ := He.codeIn_ref hcd
          obtain ⟨P', t1, t2, t3⟩ := z2 c _ _ _ _ lk hc
          subst z1
          exact ⟨⟨c, P', t1, hc, t2, t3⟩, rfl⟩
        · obtain ⟨l, l1, l2⟩ := F.ls i lam h
          rw [← l2]
          exact (leB_ok (F.lok l (List.mem_of_getElem? l1))).1
        · obtain ⟨l, l1, l2⟩ := F.ls i lam h
          rw [← l2]
          exact ⟨lv I k, hr.mono (Nat.le_add_right _ _), ihL i l l1⟩
      have ht : tabT tab lams i = some e.fd := by unfold tabT; rw [he]
      rcases bodyB_ok b4 with ⟨ks, es, lp, rp, hb1, hb2, hb3, hb4, z, hz⟩ | b4
      · rw [hb2] at lk ⊢
        refine fn_maker (nl := e.fd.nl) (ks := ks) lk hcd hsc (by rw [← b2]; exact b3) hb4 (fun ds m hd => ?_) fun A outer s H E hr => ⟨((hC A outer s H E hr).mkr z hz).1, mkT_ok (hC A outer s H E hr) hb3⟩
        show (match tabT tab lams i with
          | some fd => if ds.length = fd.np then endF m.length (execs G (callF G (tabT tab lams) W k) W fd.body (ds.map some ++ List.replicate fd.nl none) m) else .stuck
          | none => .stuck) = _
        rw [ht]
        dsimp only
        rw [if_pos (hd.trans b2.symm), hb1]
        unfold mkCall execs exec
        cases mkCs (ds.map some ++ List.replicate e.fd.nl none) ks <;> rfl
      refine fn_of (N := e.N) lk hcd hsc (fun vs H Q E h => h.1) fun A outer s H vs Q E hr hsp => ?_
      obtain ⟨hl, ds, m, loc, sim, reps, po⟩ := hsp
      have c := hC A outer s H E hr
      have hpass : PassesOwn (model (cxOf (L2N.CX P w) P w Γ.K mg base e.N e.qual e.scope (e.adr Γ.K) cdv A outer s H E).prog (cxOf (L2N.CX P w) P w Γ.K mg base e.N e.qual e.scope (e.adr Γ.K) cdv A outer s H E).w) (cxOf (L2N.CX P w) P w Γ.K mg base e.N e.qual e.scope (e.adr Γ.K) cdv A outer s H E).A (cxOf (L2N.CX P w) P w Γ.K mg base e.N e.qual e.scope (e.adr Γ.K) cdv A outer s H E).env (cxOf (L2N.CX P w) P w Γ.K mg base e.N e.qual e.scope (e.adr Γ.K) cdv A outer s H E).xe :=
        passes_of (K := fun e s'' => L2N.CX P w outer H s E e s'') (E₁ := fun e' s'' => L2N.CX P w outer H s E e' s'') rfl
      have htk : L2N.Takes (cxOf (L2N.CX P w) P w Γ.K mg base e.N e.qual e.scope (e.adr Γ.K) cdv A outer s H E) (fun cls d _ H => E cls d H) :=
        L2N.takes_of rfl rfl rfl (E₁ := fun e' s'' => L2N.CX P w outer H s E e' s'') rfl
      refine ⟨_, okSs (W := W) e.fd.body e.body b4 c hsc.kind ⟨hpass, rfl, rfl⟩ _ htk, ?_⟩
      have hd : ds.length = e.fd.np := by rw [b2, ← hl, reps.length]
      refine ⟨ds.map some ++ List.replicate e.fd.nl none, m, loc, ⟨sim, env_start reps (by rw [hd]; exact b3)⟩, ?_⟩
      have po : Po Γ E H m loc (rlD Γ) (match tabT tab lams i with
        | some fd => if ds.length = fd.np then endF m.length (execs G (callF G (tabT tab lams) W k) W fd.body (ds.map some ++ List.replicate fd.nl none) m) else .stuck
        | none => .stuck) Q := po
      rw [ht] at po
      dsimp only at po
      rw [if_pos hd] at po
      cases hx : execs G (callF G (tabT tab lams) W k) W e.fd.body (ds.map some ++ List.replicate e.fd.nl none) m with
      | none =>
        rw [hx] at po
        exact (show False from po).elim
      | some q =>
        obtain ⟨f, m'⟩ := q
        rw [hx] at po
        cases f with
        | nx e' =>
          intro σ' H' loc' s' k' _
          obtain ⟨l2, s2, k2, r2⟩ := cut_ok (d := .non) (v := .non) sim.len s' k' .non
          exact (show Po Γ E H m loc (rlD Γ) (.ok .non (cutM m.length .non m')) Q from po) .non H' l2 s2 k2 r2
        | rt d =>
          intro v H' loc' s' k' r'
          obtain ⟨l2, s2, k2, r2⟩ := cut_ok sim.len s' k' r'
          exact (show Po Γ E H m loc (rlD Γ) (.ok d (cutM m.length d m')) Q from po) v H' l2 s2 k2 r2
        | bk e' => exact (show False from po).elim
        | ct e' => exact (show False from po).elim
        | ex x e' => exact fun σ' H' loc' s' k' _ cls d hx => (show Po Γ E H m loc (rlD Γ) (.exc x m') Q from po) H' loc' s' k' cls d hx
    · obtain ⟨W1, hmk, hch⟩ := leB_ok (F.lok l (List.mem_of_getElem? hl))
      intro A outer s O H f c' cl pm ctv us vs ws dargs dcap m loc E Q hr e0 ko hf hco C r sim rargs rcap po
      have hnone : tab[LB + i]? = none := List.getElem?_eq_none (Nat.le_trans F.len (Nat.le_add_right _ _))
      have ht : tabT tab lams (LB + i) = some ⟨l.lam.N.length, 0, [.ret l.e]⟩ := by
        unfold tabT
        rw [hnone]
        show (if LB ≤ LB + i then (lams[LB + i - LB]?).map _ else none) = _
        rw [if_pos (Nat.le_add_right _ _), Nat.add_sub_cancel_left, hl]
        rfl
      have po : Po Γ (fun c d H' => NoO O H' → E c d (ov O H')) H m loc (rlD Γ) (match tabT tab lams (LB + i) with
        | some fd => if (dargs ++ dcap).length = fd.np then endF m.length (execs G (callF G (tabT tab lams) W k) W fd.body ((dargs ++ dcap).map some ++ List.replicate fd.nl none) m) else .stuck
        | none => .stuck) (fun v H' => NoO O H' → Q v (ov O H')) := po
      rw [ht] at po
      dsimp only at po
      by_cases hn : (dargs ++ dcap).length = l.lam.N.length
      · rw [if_pos hn] at po
        have hvl : vs.length = l.lam.ps.length := by
          have h1 := C.len
          rw [List.length_append, h1, ← rcap.length, ← rargs.length] at hn
          omega
        have hr' : Room (lv I k + dl I) (A.deeper (PySem.W.envX l.lam.q l.lam.scope s.heap.objs.size f (.ref c') cl)) := hr.deeper _
        have c : Cok Γ (cloCx P w Γ.K mg base l.lam f c' cl A outer s H (fun c d H' => NoO O H' → E c d (ov O H'))) l.lam.N l.lam.scope (fun _ => false) I G (callF G (tabT tab lams) W k) := by
          refine ⟨rfl, W1.nd, rfl, rfl, rfl, ?_, (fun _ h => by cases h), fun x f n hx => ?_, F.gl, F.bl, fun x hx => ?_, F.tr, F.tv, fun z hz => ?_, F.lm, ⟨fun i lam h => ?_, fun i lam h => ?_⟩, ob_of F ihF rfl rfl hr', F.tk, ini_of hFl rfl rfl rfl rfl rfl (hr'.mono (two_le I k)) F.ini⟩
          · have := hr'.un
            show (A.deeper (PySem.W.envX l.lam.q l.lam.scope s.heap.objs.size f (.ref c') cl)).units + 65 < cLine
            omega
          · obtain ⟨e', h1, h2, h3, g1⟩ := F.fns x f n hx
            obtain ⟨fd', g2, g3⟩ := F.def_ f e' h1
            subst h2 h3
            exact FnM.of g1 g2.kp g3 (hr'.mono (Nat.le_add_right _ _)) (ihF f e' h1 fd' g2)
          · obtain ⟨Ca, bmB, B, newId, initId, x1, x2, x3, x4, ⟨x5, x6⟩, x7⟩ := F.ex x hx
            exact ⟨Ca, bmB, B, newId, initId, x1, x2, x3, x4, raises_own x5 x6, x7⟩
          · have hz : I.mks.lookup l.lam.scope = some z := hz
            rw [hmk] at hz
            cases hz
          · obtain ⟨l, l1, l2⟩ := F.ls i lam h
            rw [← l2]
            exact (leB_ok (F.lok l (List.mem_of_getElem? l1))).1
          · obtain ⟨l, l1, l2⟩ := F.ls i lam h
            rw [← l2]
            exact ⟨lv I k, hr'.mono (Nat.le_add_right _ _), ihL i l l1⟩
        have htk : L2N.Takes (cloCx P w Γ.K mg base l.lam f c' cl A outer s H (fun c d H' => NoO O H' → E c d (ov O H'))) (fun cls d _ H' => NoO O H' → E cls d (ov O H')) :=
          L2N.takes_of rfl rfl rfl (E₁ := fun e' s'' => L2N.CX P w outer H s (fun c d H' => NoO O H' → E c d (ov O H')) e' s'') rfl
        refine clo_run W1 hr e0 ko hf hco C r hvl (okE l.e _ _ _ hch c _ htk) ⟨(dargs ++ dcap).map some, m, loc, ⟨sim, by rw [← List.map_append]; exact envR_map (rargs.append rcap)⟩, ?_⟩
        rw [show ((dargs ++ dcap).map some ++ List.replicate 0 none : Env) = (dargs ++ dcap).map some from List.append_nil _] at po
        cases hx : eval G (callF G (tabT tab lams) W k) l.e ((dargs ++ dcap).map some) m with
        | stuck =>
          unfold execs exec at po
          rw [hx] at po
          exact (show False from po).elim
        | ok d m' =>
          unfold execs exec at po
          rw [hx] at po
          intro v H' loc' s' k' r'
          obtain ⟨l2, s2, k2, r2⟩ := cut_ok sim.len s' k' r'
          exact (show Po Γ _ H m loc (rlD Γ) (.ok d (cutM m.length d m')) _ from po) v H' l2 s2 k2 r2
        | exc xx m' =>
          unfold execs exec at po
          rw [hx] at po
          exact (show Po Γ _ H m loc (rlD Γ) (.exc xx m') _ from po)
      · rw [if_neg hn] at po
        exact (show False from po).elim
end
end Mi
/-! Mini: a law's end. -/
namespace Mi
open PySem PySem.Spec PyProof.Rows L2
variable [Glb]
/-! ### constants of the module -/
def dvOf : D → Option He.Dv
  | .non => some .non
  | .bl b => some (.bl b)
  | .int i => some (.int i)
  | .str s => some (.str s)
  | _ => none
def dvsOf : List D → Option (List He.Dv)
  | [] => some []
  | d :: ds => (dvOf d).bind fun v => (dvsOf ds).map (v :: ·)
def cstK (K : PySem.W.Frag) (p : Str × D) : Bool := match p.2 with
  | .int i => (He.Fa.int p.1 i).ok K
  | .str z => (He.Fa.str p.1 z).ok K
  | .tup ds => (He.Fa.glo p.1).ok K && decide (ds.length ≤ 1000) && (match dvsOf ds with
    | some vs => He.tupB K p.1 vs
    | none => false)
  | _ => false
theorem dvOf_rep {K : PySem.W.Frag} {H : Hp} {L : Addr → Prop} {loc : Loc} {d : D} {v : He.Dv} (h : dvOf d = some v) : Rep K H L loc (v.v K) d := by
  cases d <;> cases h
  · exact .non
  · exact .bl _
  · exact .int _
  · exact .str _
theorem dvsOf_rep {K : PySem.W.Frag} {H : Hp} {L : Addr → Prop} {loc : Loc} : ∀ {ds : List D} {vs : List He.Dv}, dvsOf ds = some vs → Reps K H L loc (vs.map (He.Dv.v K)) ds
  | [], _, h => by
    cases h
    exact .nil
  | d :: ds, vs, h => by
    obtain ⟨v, h1, h2⟩ := Option.bind_eq_some_iff.mp (show (dvOf d).bind (fun v => (dvsOf ds).map (v :: ·)) = some vs from h)
    obtain ⟨vs', h3, h4⟩ := Option.map_eq_some_iff.mp h2
    subst h4
    exact .cons (dvOf_rep h1) (dvsOf_rep h3)
theorem tupB_wr {K : PySem.W.Frag} {x : Str} {vs : List He.Dv} (h : He.tupB K x vs = true) : WrT K (He.ga K x) (vs.map (He.Dv.v K)) := by
  unfold He.tupB at h
  cases q : K.lookup (He.ga K x) with
  | none =>
    rw [q] at h
    cases h
  | some o =>
    obtain ⟨oc, od, dt, osl⟩ := o
    rw [q] at h
    cases oc with
    | type c =>
      cases dt with
      | seq its n =>
        obtain ⟨h1, h2⟩ := and2 (show (decide (c = "tuple") && (decide (its.size ≤ sizeLine) && He.relAll (vs.map (He.Dv.v K)) its.toList)) = true from h)
        obtain ⟨h3, h4⟩ := and2 h2
        exact ⟨_, its, n, q, congrArg Value.type (of_decide_eq_true h1), rfl, of_decide_eq_true h3, He.relAll_ok h4⟩
      | _ => cases h
    | _ => cases dt <;> cases h
theorem cst_in {K : PySem.W.Frag} {h : Heap} {mg : Str → Option Value} (X : K.In h) (G : h.Ns mainGlobals mg) {x : Str} {d : D} (c : cstK K (x, d) = true) : ∃ u v, mg x = some u ∧ RelV v u ∧ ∀ H L loc, Rep K H L loc v d := by
  cases d with
  | int i =>
    obtain ⟨t, e⟩ := He.int_ok X G (x := x) (i := i) c
    exact ⟨_, .int i, e, ⟨t, rfl⟩, fun _ _ _ => .int i⟩
  | str z =>
    obtain ⟨t, e⟩ := He.str_ok X G (x := x) (z := z) c
    exact ⟨_, .str z, e, ⟨t, rfl⟩, fun _ _ _ => .str z⟩
  | tup ds =>
    obtain ⟨c, c3⟩ := and2 c
    obtain ⟨c1, c2⟩ := and2 c
    have c3 : (match dvsOf ds with
      | some vs => He.tupB K x vs
      | none => false) = true := c3
    cases e : dvsOf ds with
    | none =>
      rw [e] at c3
      cases c3
    | some vs =>
      rw [e] at c3
      refine ⟨_, .ref (He.ga K x), He.glo_ok X G c1, rfl, fun H L loc => .tup (.inr (tupB_wr c3)) ?_ (dvsOf_rep e)⟩
      have c2 : ds.length ≤ 1000 := of_decide_eq_true c2
      rw [(dvsOf_rep (K := K) (H := H) (L := L) (loc := loc) e).length]
      exact Nat.le_trans c2 (by decide)
  | _ => cases c
/-! ### the Hook: what a few names of the module stand for, and what that names -/
def nextN (o : Obj) : List Addr := match o.data with
  | .cls cd => [cd.ns]
  | _ => He.refsD o
def stepN (g : Addr → Option Obj) (as : List Addr) : List Addr := as.flatMap fun a => ((g a).map nextN).getD []
def levN (g : Addr → Option Obj) : Nat → List Addr → List Addr
  | 0, as => as
  | n + 1, as => as ++ levN g n (stepN g as)
def addrN (g : Addr → Option Obj) (n : Nat) (nm : List Str) : List Addr := mainGlobals :: cStatics :: levN g n (nm.map (He.ga (He.frG g [mainGlobals])))
/-- the addresses are reckoned once -/
def frcN {α : Type} : List Addr → (List Addr → α) → α
  | [], k => k []
  | a :: r, k => HandSHeadRun.frNat a fun a => frcN r fun r => k (a :: r)
theorem frcN_eq {α : Type} : ∀ (as : List Addr) (k : List Addr → α), frcN as k = k as
  | [], k => rfl
  | a :: r, k => by
    show HandSHeadRun.frNat a (fun a => frcN r fun r => k (a :: r)) = _
    rw [HandSHeadRun.frNat_eq, frcN_eq r]
def frcK {α : Type} : PySem.W.Frag → (PySem.W.Frag → α) → α
  | [], k => k []
  | p :: r, k => HandSHeadRun.frNat p.1 fun a => frcK r fun r => k ((a, p.2) :: r)
theorem frcK_eq {α : Type} : ∀ (K : PySem.W.Frag) (k : PySem.W.Frag → α), frcK K k = k K
  | [], k => rfl
  | p :: r, k => by
    show HandSHeadRun.frNat p.1 (fun a => frcK r fun r => k ((a, p.2) :: r)) = _
    rw [HandSHeadRun.frNat_eq, frcK_eq r]
abbrev tfN (mk : List Str) : List He.Defn := mk.map fun x => (x, none)
/-- a def as it lies at an address -/
def fnAt (K : PySem.W.Frag) (a : Addr) : He.FnW := match K.lookup a with
  | some ⟨_, _, .func fd, _⟩ => some (fd.name, fd.qualname, fd.params, fd.body, fd.scope, fd.globals, fd.closure, fd.builtins)
  | _ => none
def Ent.val (e : Ent) : He.FnW := some (e.x, e.qual, e.pa, .stmts e.body, e.scope, mainGlobals, [], builtinsNs)
def Ent.fit (K : PySem.W.Frag) (e : Ent) : Bool := PySem.W.keepIn K (.ref (e.adr K)) && (match K.lookup (e.adr K) with
  | some ⟨_, _, .func fd, _⟩ => PySem.W.codeIn K fd.code e.qual && He.dflB K fd.defaults (e.dvs K)
  | _ => false)
theorem Ent.funD {K : PySem.W.Frag} {e : Ent} (h1 : fnAt K (e.adr K) = e.val) (h2 : e.fit K = true) : ∃ fd, FunD K e.x e.qual e.pa e.body e.scope (e.dvs K) [] (e.adr K) fd := by
  obtain ⟨kp, h2⟩ := and2 h2
  unfold fnAt at h1
  cases q : K.lookup (e.adr K) with
  | none =>
    rw [q] at h1
    cases h1
  | some o =>
    obtain ⟨oc, od, dt, osl⟩ := o
    rw [q] at h1 h2
    cases dt with
    | func fd =>
      obtain ⟨a1, a2, a3, a4, a5, a6, a7, a8, a9, a10, a11, a12, a13, a14, a15⟩ := fd
      have h3 : (some (a1, a2, a3, a4, a5, a6, a7, a15) : He.FnW) = some (e.x, e.qual, e.pa, .stmts e.body, e.scope, mainGlobals, [], builtinsNs) := h1
      injection h3 with h3
      injection h3 with b1 h3
      injection h3 with b2 h3
      injection h3 with b3 h3
      injection h3 with b4 h3
      injection h3 with b5 h3
      injection h3 with b6 h3
      injection h3 with b7 b8
      subst b1 b2 b3 b4 b5 b6 b7 b8
      obtain ⟨g1, g2⟩ := and2 (show (PySem.W.codeIn K a13 e.qual && He.dflB K a8 (e.dvs K)) = true from h2)
      exact ⟨_, ⟨oc, od, a8, a9, a10, a11, a12, a13, a14, osl, rfl, q, g1, He.dflB_ok g2, .inl rfl⟩, kp⟩
    | _ => cases h1
abbrev AlM : Type := Bool × List He.FnW
def seeN (fa : List He.Fa) (es : List Ent) (mk : List Str) (ex : PySem.W.Frag → Bool) (g : Addr → Option Obj) (K : PySem.W.Frag) : AlM := ((fa.all fun f => f.ok K) && (es.all fun e => e.fit K) && ex K && He.tabsB g (tfN mk) K, es.map fun e => fnAt K (e.adr K))
def valN (es : List Ent) : AlM := (true, es.map Ent.val)
structure SaysN (fa : List He.Fa) (es : List Ent) (mk : List Str) (ex : PySem.W.Frag → Bool) (h : Heap) (K : PySem.W.Frag) : Prop where
  fact : ∀ f ∈ fa, f.ok K = true
  def_ : ∀ e ∈ es, ∃ fd, FunD K e.x e.qual e.pa e.body e.scope (e.dvs K) [] (e.adr K) fd
  more : ex K = true
  hd : ∀ p ∈ tfN mk, PySem.W.codeHdIn K (He.cT K p).1 (He.cT K p).2 = true
  out : ∀ p ∈ tfN mk, K.lookup (He.cT K p).2 = none
  empty : ∀ p ∈ tfN mk, h.get? (He.cT K p).2 = some { cls := .none, data := .fields #[] }
def obsM (n : Nat) (nm : List Str) (fa : List He.Fa) (es : List Ent) (mk : List Str) (ex : PySem.W.Frag → Bool) (g : Addr → Option Obj) : AlM :=
  frcN (addrN g n nm) fun as => frcK (He.frT g as) (seeN fa es mk ex g)
theorem map_at {α β : Type} {f g : α → β} : ∀ {l : List α} {x : α}, l.map f = l.map g → x ∈ l → f x = g x
  | [], _, _, h => by cases h
  | a :: l, x, e, h => by
    injection e with e1 e2
    rcases List.mem_cons.mp h with q | q
    · rw [q]
      exact e1
    · exact map_at e2 q
theorem seeN_ok {fa : List He.Fa} {es : List Ent} {mk : List Str} {ex : PySem.W.Frag → Bool} {h : Heap} {as : List Addr} (e : seeN fa es mk ex h.get? (He.frT h.get? as) = valN es) : SaysN fa es mk ex h (He.frT h.get? as) := by
  have e1 : ((fa.all fun f => f.ok (He.frT h.get? as)) && (es.all fun e => e.fit (He.frT h.get? as)) && ex (He.frT h.get? as) && He.tabsB h.get? (tfN mk) (He.frT h.get? as)) = true := congrArg Prod.fst e
  have e2 : (es.map fun e => fnAt (He.frT h.get? as) (e.adr (He.frT h.get? as))) = es.map Ent.val := congrArg Prod.snd e
  obtain ⟨e1, h4⟩ := and2 e1
  obtain ⟨e1, h3⟩ := and2 e1
  obtain ⟨h1, h2⟩ := and2 e1
  have look : ∀ p ∈ tfN mk, PySem.W.codeHdIn (He.frT h.get? as) (He.cT (He.frT h.get? as) p).1 (He.cT (He.frT h.get? as) p).2 = true ∧ ∃ o, h.get? (He.cT (He.frT h.get? as) p).2 = some o ∧ He.emptyTab o = true := fun p hp => by
    obtain ⟨a, b⟩ := and2 (List.all_eq_true.mp h4 p hp)
    cases q : h.get? (He.cT (He.frT h.get? as) p).2 with
    | some o => exact ⟨a, o, rfl, by rw [q] at b; exact b⟩
    | none => rw [q] at b; cases b
  refine ⟨fun f hf => List.all_eq_true.mp h1 f hf, fun x hx => Ent.funD (map_at (f := fun e => fnAt (He.frT h.get? as) (e.adr (He.frT h.get? as))) e2 hx) (List.all_eq_true.mp h2 x hx), h3, fun p hp => (look p hp).1, fun p hp => ?_, fun p hp => ?_⟩
  all_goals
    obtain ⟨_, o, q, z⟩ := look p hp
  · exact He.frT_none q z
  · exact q.trans (congrArg some (He.emptyTab_eq z))
def hookM (n : Nat) (nm : List Str) (fa : List He.Fa) (es : List Ent) (mk : List Str) (ex : PySem.W.Frag → Bool) : PySem.W.Hook where
  α := AlM
  obs := fun s => obsM n nm fa es mk ex s.heap.get?
  val := fun _ => valN es
  says := fun _ h => ∃ K : PySem.W.Frag, K.In h ∧ SaysN fa es mk ex h K
  of := fun w s e => ⟨_, He.frT_in, seeN_ok (as := addrN s.heap.get? n nm) (by
    have e : frcN (addrN s.heap.get? n nm) (fun as => frcK (He.frT s.heap.get? as) (seeN fa es mk ex s.heap.get?)) = valN es := e
    rw [frcN_eq, frcK_eq] at e
    exact e)⟩
  keeps := fun _ _ _ ⟨K, i, c⟩ k => ⟨K, PySem.W.Frag.In.keeps i k, ⟨c.fact, c.def_, c.more, c.hd, c.out, fun p hp => k _ _ (c.empty p hp)⟩⟩
theorem obsM_eq {n : Nat} {nm : List Str} {fa : List He.Fa} {es : List Ent} {mk : List Str} {ex : PySem.W.Frag → Bool} {g : Addr → Option Obj} {s : Shared} (h : ∀ a, g a = s.heap.get? a) : obsM n nm fa es mk ex g = (hookM n nm fa es mk ex).obs s := by
  rw [show g = s.heap.get? from funext h]
  rfl
/-! ### all together -/
structure Lw where
  tab : List Ent
  cst : List (Str × D)
  blt : List Str
  exc : List Str
  trs : List (Str × Str × Str × Bool)
  mkn : List Str := []
  lm : List LE := []
  tvs : List (Str × Bool) := []
  /-- further names that the Hook looks at: classes -/
  cls : List Str := []
  /-- own classes: what is said of them; which clause takes which exception -/
  cln : List Str := []
  obs : List Ob := []
  trk : List (Str × Str × Bool) := []
  ini : List Str := []
  file : Str := Str.empty
  /-- defs that are called with fewer arguments: how many -/
  bds : List (Nat × Nat) := []
def Lw.nms (l : Lw) : List Str := (l.tab.filter fun e => e.cl.isNone).map (·.x) ++ (l.cst.map (·.1) ++ (l.cls ++ l.cln))
def Lw.fa (l : Lw) : List He.Fa := ((l.tab.filter fun e => e.cl.isNone).map fun e => He.Fa.glo e.x) ++ (l.blt.map He.Fa.free ++ (l.exc.map He.Fa.glo ++ l.exc.map He.Fa.exc))
def excB (K : PySem.W.Frag) (D : Addr) : Bool := decide (PySem.W.findIn K (.ref D) "__getattribute__" = some (some (.builtin "BaseException.__getattribute__"))) && decide (PySem.W.findIn K (.ref D) "__getattr__" = some none) && decide (PySem.W.subIn K (.ref D) (.type "BaseException") = some true) && PySem.W.hasDictIn K D && decide (PySem.W.findIn K (.ref D) "__class__" = some (some (.builtin "object.__class__"))) && decide (PySem.W.specialIn K (.builtin "object.__class__") "__get__" = some (some (.builtin "getset_descriptor.__get__"))) && decide (PySem.W.takesIn K (.builtin "object.__class__") = some true) && decide (PySem.W.mroIn K D (.type "object") = some true)
theorem excB_ok {K : PySem.W.Frag} {D : Addr} (h : excB K D = true) : ExcC K D := by
  obtain ⟨h, h8⟩ := and2 h
  obtain ⟨h, h7⟩ := and2 h
  obtain ⟨h, h6⟩ := and2 h
  obtain ⟨h, h5⟩ := and2 h
  obtain ⟨h, h4⟩ := and2 h
  obtain ⟨h, h3⟩ := and2 h
  obtain ⟨h1, h2⟩ := and2 h
  exact ⟨of_decide_eq_true h1, of_decide_eq_true h2, of_decide_eq_true h3, h4, of_decide_eq_true h5, of_decide_eq_true h6, of_decide_eq_true h7, of_decide_eq_true h8⟩
def trB (K : PySem.W.Frag) (q : Str × Str × Str × Bool) : Bool := (He.Fa.glo q.2.1).ok K && (He.Fa.glo q.2.2.1).ok K && decide (PySem.W.exmOne K (.ref (He.ga K q.1)) (.ref (He.ga K q.2.1)) = some true) && decide (PySem.W.kitOne K (.ref (He.ga K q.1)) (.ref (He.ga K q.2.2.1)) = some q.2.2.2) && excB K (He.ga K q.1)
/-- the tables of the makers -/
def Lw.tf (l : Lw) : List He.Defn := l.mkn.map fun x => (x, none)
def Lw.T (l : Lw) (K : PySem.W.Frag) : List (Addr × Str) := l.mkn.map fun x => ((He.cT K (x, none)).2, x ++ ".<locals>." ++ "<lambda>")
def Lw.C (l : Lw) (K : PySem.W.Frag) (k : Nat) : Addr := He.ga K ((l.cln[k]?).getD Str.empty)
def entCB (l : Lw) (f n : Nat) (c : Str) (x : Str) (pr : Bool) : Bool := match l.tab[f]? with
  | some e => decide (e.ps.length = n) && decide (e.cl = some c) && decide (e.x = x) && decide (e.pr = pr) && decide (e.cm = false)
  | none => false
def entCM (l : Lw) (f n : Nat) (c : Str) (x : Str) : Bool := match l.tab[f]? with
  | some e => decide (e.ps.length = n) && decide (e.cl = some c) && decide (e.x = x) && decide (e.cm = true)
  | none => false
/-- a default as it lies -/
def dfB (K : PySem.W.Frag) : He.Dv → Df → Bool
  | .int i, .int j => decide (i = j)
  | .non, .non => true
  | .adr p, .tup0 => (match K.lookup (p K) with
    | some ⟨.type c, _, .seq its _, _⟩ => decide (c = "tuple") && (decide (its.size ≤ sizeLine) && He.relAll [] its.toList)
    | _ => false)
  | _, _ => false
def dfsB (K : PySem.W.Frag) : List He.Dv → List Df → Bool
  | [], [] => true
  | d :: ds, f :: fs => dfB K d f && dfsB K ds fs
  | _, _ => false
def entDB (l : Lw) (K : PySem.W.Frag) (f n : Nat) (c : Str) (x : Str) (dfl : List Df) : Bool := match l.tab[f]? with
  | some e => decide (e.ps.length = n + dfl.length) && decide (e.cl = some c) && decide (e.x = x) && decide (e.pr = false) && decide (e.cm = false) && decide ((f, n) ∈ l.bds) && dfsB K (e.dfl.drop (e.dfl.length - (e.ps.length - n))) dfl
  | none => false
def binOwnB (K : PySem.W.Frag) (a g : Addr) (nm : String) : Bool := PySem.W.selfFirst K a && decide (PySem.W.findIn K (.ref a) (PySem.dunder nm) = some (some (.ref g))) && PySem.W.isFn K (.ref g) && decide (PySem.W.findIn K (.ref a) (dunderR nm) = some none) &&
  plainTys.all fun T => (PySem.W.findIn K (.type T) (PySem.dunder nm)).isSome && (PySem.W.findIn K (.type T) (dunderR nm)).isSome && decide (PySem.W.subIn K (.type T) (.ref a) = some false)
theorem binOwnB_ok {K : PySem.W.Frag} {a g : Addr} {nm : String} (h : binOwnB K a g nm = true) : BinC K a nm g := by
  obtain ⟨h, h5⟩ := and2 h
  obtain ⟨h, h4⟩ := and2 h
  obtain ⟨h, h3⟩ := and2 h
  obtain ⟨h1, h2⟩ := and2 h
  refine ⟨h1, of_decide_eq_true h2, h3, of_decide_eq_true h4, fun T hT => ?_⟩
  obtain ⟨q, q3⟩ := and2 (List.all_eq_true.mp h5 T hT)
  obtain ⟨q1, q2⟩ := and2 q
  exact ⟨Option.isSome_iff_exists.mp q1, Option.isSome_iff_exists.mp q2, of_decide_eq_true q3⟩
def ownB (K : PySem.W.Frag) (a : Addr) (x : Str) : Bool := decide (PySem.W.findIn K (.ref a) x = some (some (.ref (He.ma K a x)))) && PySem.W.isFn K (.ref (He.ma K a x))
def obB (l : Lw) (K : PySem.W.Frag) (q : Ob) : Bool := match q with
  | .cls k => (match l.cln[k]? with
    | some c => (He.Fa.cls c).ok K
    | none => false)
  | .noat k x => (match l.cln[k]? with
    | some c => (He.Fa.noat c x).ok K
    | none => false)
  | .meth x k f n => (match l.cln[k]? with
    | some c => (He.Fa.meth c x).ok K && entCB l f n c x false
    | none => false)
  | .prop x k f => (match l.cln[k]? with
    | some c => decide (PySem.W.findIn K (.ref (He.ga K c)) x = some (some (.ref (He.ma K (He.ga K c) x)))) && decide (PySem.W.specialIn K (.ref (He.ma K (He.ga K c) x)) "__get__" = some (some (.builtin "property.__get__"))) &&
        decide (PySem.W.takesIn K (.ref (He.ma K (He.ga K c) x)) = some true) && (match PySem.W.recIn K (He.ma K (He.ga K c) x) "property" with
          | some (.ref g :: _) => decide (prG K (He.ma K (He.ga K c) x) = g)
          | _ => false) && entCB l f 1 c x true
    | none => false)
  | .make x k f n => (match l.cln[k]? with
    | some c => decide (x = c) && (He.Fa.mkr c).ok K && (He.Fa.glo c).ok K && entCB l f n c "__init__" false
    | none => false)
  | .get k f => (match l.cln[k]? with
    | some c => ownB K (He.ga K c) "__getitem__" && PySem.W.fnIn K (He.ma K (He.ga K c) "__getitem__") && entCB l f 2 c "__getitem__" false
    | none => false)
  | .eq k f => (match l.cln[k]? with
    | some c => ownB K (He.ga K c) "__eq__" && entCB l f 2 c "__eq__" false
    | none => false)
  | .len k f => (match l.cln[k]? with
    | some c => ownB K (He.ga K c) "__len__" && entCB l f 1 c "__len__" false
    | none => false)
  | .iop o k f => (match l.cln[k]? with
    | some c => PySem.W.selfFirst K (He.ga K c) && ownB K (He.ga K c) (dunderI (opOf o).info.2) && entCB l f 2 c (dunderI (opOf o).info.2) false
    | none => false)
  | .isc x k => (match l.cln[k]? with
    | some c => decide (x = c) && (He.Fa.glo c).ok K && (He.Fa.cls c).ok K && decide (PySem.W.findIn K (.ref (He.ga K c)) "__class__" = some (some (.builtin "object.__class__"))) && decide (PySem.W.specialIn K (.builtin "object.__class__") "__get__" = some (some (.builtin "getset_descriptor.__get__"))) &&
        decide (PySem.W.takesIn K (.builtin "object.__class__") = some true) && decide (PySem.W.mroIn K (He.ga K c) (.type "object") = some true) && decide (PySem.W.kitOne K (.ref (He.ga K c)) (.ref (He.ga K c)) = some true) && plainTys.all (fun n => decide (PySem.W.kitOne K (.type n) (.ref (He.ga K c)) = some false))
    | none => false)
  | .bin o k f => (match l.cln[k]? with
    | some c => binOwnB K (He.ga K c) (He.ma K (He.ga K c) (PySem.dunder (opOf o).info.2)) (opOf o).info.2 && entCB l f 2 c (PySem.dunder (opOf o).info.2) false
    | none => false)
  | .call k f => (match l.cln[k]? with
    | some c => ownB K (He.ga K c) "__call__" && PySem.W.fnIn K (He.ma K (He.ga K c) "__call__") && entCB l f 2 c "__call__" false
    | none => false)
  | .cmet q x k f n => (match l.cln[k]? with
    | some c => decide (q = c) && (He.Fa.glo c).ok K && PySem.W.readsIn K (He.ga K c) (.type "type") && decide (PySem.W.specialIn K (.ref (He.ga K c)) "__getattribute__" = some (some (.builtin "type.__getattribute__"))) && He5.wrapB K (He.ga K c) "classmethod" "classmethod.__get__" x && PySem.W.fnIn K (He5.wf K (He.ga K c) "classmethod" x) && entCM l f n c x
    | none => false)
  | .maked x k f n dfl => (match l.cln[k]? with
    | some c => decide (x = c) && (He.Fa.mkr c).ok K && (He.Fa.glo c).ok K && entDB l K f n c "__init__" dfl
    | none => false)
  | .gix x ys => (He.Fa.glo x).ok K && (match K.lookup (He.ga K x) with
    | some o => decide (o.cls = .type "tuple") && o.dict.isNone
    | none => false) && He.tupB K x (ys.map He.Dv.str)
def tkB (K : PySem.W.Frag) (q : Str × Str × Bool) : Bool := (He.Fa.glo q.2.1).ok K && decide (PySem.W.exmOne K (.ref (He.ga K q.1)) (.ref (He.ga K q.2.1)) = some q.2.2)
def iniB (l : Lw) (K : PySem.W.Frag) (x : Str) : Bool := MX.xinB K x l.file && excB K (He.ga K x)
def Lw.ex (l : Lw) (K : PySem.W.Frag) : Bool := l.ini.all (iniB l K) && l.obs.all (obB l K) && l.trk.all (tkB K) && (l.cst.all (cstK K) && l.trs.all (trB K) && l.tvs.all (fun q => decide (PySem.W.kitOne K (.ref (He.ga K q.1)) (.type "ValueError") = some q.2)) && decide (l.mkn.map fun x => (He.cT K (x, none)).2).Nodup)
def fnsOf : Nat → List Ent → List (Str × Nat × Nat)
  | _, [] => []
  | i, e :: es => match e.cl with
    | none => (e.x, i, e.ps.length) :: fnsOf (i + 1) es
    | some _ => fnsOf (i + 1) es
def glbOf : Nat → List (Str × D) → List (Str × Nat)
  | _, [] => []
  | i, e :: es => (e.1, i) :: glbOf (i + 1) es
def mksOf (mk : List Str) (tab : List Ent) : List (Scope × Str) := tab.filterMap fun e => if e.x ∈ mk then some (e.scope, e.qual ++ ".<locals>.") else none
def Lw.I (l : Lw) : Info := ⟨fnsOf 0 l.tab, glbOf 0 l.cst, l.blt, l.exc, l.trs, mksOf l.mkn l.tab, l.lm.map (·.lam), l.tvs, l.obs, l.trk, l.ini, l.file⟩
def mkB (l : Lw) (e : Ent) : Bool := match l.I.mks.lookup e.scope with
  | some z => decide (z = e.qual ++ ".<locals>.") && decide (e.x ∈ l.mkn) && e.cl.isNone
  | none => true
/-- all checks -/
def Lw.ok (l : Lw) : Bool := l.tab.all (entB l.I) && l.lm.all (leB l.I) && l.tab.all (mkB l) && decide (l.tab.length ≤ LB)
def Lw.G (l : Lw) (j : Nat) : Option D := (l.cst[j]?).map (·.2)
def BindsP (e : Ent) : Prop := (e.dfl = [] → ∀ (kV doc pm : Value) (an : Option Addr) (cdv ct : Value) (us : List Value), us.length = e.ps.length → bindArgs (PySem.W.fnOf e.x e.qual e.pa e.body e.scope .none kV doc pm an cdv ct) ⟨us, []⟩ = pure (e.ps.zip us)) ∧
  (e.dfl ≠ [] → ∀ (T : Addr) (kV doc pm : Value) (an : Option Addr) (cdv ct : Value) (us its : List Value), us.length = e.ps.length → its.length = e.dfl.length →
    ∃ k, bindArgs (PySem.W.fnOf e.x e.qual e.pa e.body e.scope (.ref T) kV doc pm an cdv ct) ⟨us, []⟩ = seqItems? (.ref T) >>= k ∧ k (some its.toArray) = pure (e.ps.zip us))
theorem BindsP.binds {K : PySem.W.Frag} {e : Ent} {fd : FuncData} (h : BindsP e) (F : FunD K e.x e.qual e.pa e.body e.scope (e.dvs K) [] (e.adr K) fd) : Binds K fd e.ps [] := by
  by_cases q : e.dfl = []
  · have z : e.dvs K = [] := by
      unfold Ent.dvs
      rw [q]
      rfl
    rw [z] at F
    exact FunD.bindsN F (h.1 q)
  · have hl : (e.dvs K).length = e.dfl.length := List.length_map ..
    have hne : e.dvs K ≠ [] := fun z => q (List.map_eq_nil_iff.mp z)
    obtain ⟨ds, h1, h2⟩ := FunD.binds1 (ps := e.ps) F e.ps.length (e.dvs K).length hne (by omega) fun T kV doc pm an cdv ct us its h1 h2 => by
      obtain ⟨k, g1, g2⟩ := h.2 q T kV doc pm an cdv ct us its h1 (by rw [h2, hl])
      exact ⟨k, g1, by rw [← h2, List.drop_length, List.append_nil]; exact g2⟩
    rw [List.drop_length] at h1
    cases h1
    exact h2
/-- the same with fewer arguments -/
def BindsD (e : Ent) (n : Nat) : Prop := e.dfl ≠ [] ∧ n ≤ e.ps.length ∧ e.ps.length - n ≤ e.dfl.length ∧ ∀ (T : Addr) (kV doc pm : Value) (an : Option Addr) (cdv ct : Value) (us its : List Value), us.length = n → its.length = e.dfl.length →
    ∃ k, bindArgs (PySem.W.fnOf e.x e.qual e.pa e.body e.scope (.ref T) kV doc pm an cdv ct) ⟨us, []⟩ = seqItems? (.ref T) >>= k ∧ k (some its.toArray) = pure (e.ps.zip (us ++ its.drop (e.dfl.length - (e.ps.length - n))))
def BdAll (tab : List Ent) : List (Nat × Nat) → Prop
  | [] => True
  | q :: r => (∃ e, tab[q.1]? = some e ∧ BindsD e q.2) ∧ BdAll tab r
theorem BdAll.at_ {tab : List Ent} : ∀ {l : List (Nat × Nat)}, BdAll tab l → ∀ q ∈ l, ∃ e, tab[q.1]? = some e ∧ BindsD e q.2
  | [], _, q, h => by cases h
  | a :: l, b, q, h => by
    rcases List.mem_cons.mp h with z | z
    · rw [z]
      exact b.1
    · exact BdAll.at_ b.2 q z
theorem dfB_rep {K : PySem.W.Frag} {d : He.Dv} {f : Df} (h : dfB K d f = true) (H : Hp) (L : Addr → Prop) (loc : Loc) : Rep K H L loc (d.v K) f.d := by
  unfold dfB at h
  split at h
  · rw [of_decide_eq_true h]
    exact .int _
  · exact .non
  · rename_i p
    split at h
    · rename_i c dd its n sl q
      obtain ⟨h1, h2⟩ := and2 h
      obtain ⟨h3, h4⟩ := and2 h2
      exact .tup (vs := []) (.inr ⟨_, its, n, q, congrArg Value.type (of_decide_eq_true h1), rfl, of_decide_eq_true h3, He.relAll_ok h4⟩) (Nat.zero_le _) .nil
    · cases h
  · cases h
theorem dfsB_rep {K : PySem.W.Frag} : ∀ {ds : List He.Dv} {fs : List Df}, dfsB K ds fs = true → ∀ (H : Hp) (L : Addr → Prop) (loc : Loc), Reps K H L loc (ds.map (He.Dv.v K)) (fs.map Df.d)
  | [], [], _, H, L, loc => .nil
  | d :: ds, f :: fs, h, H, L, loc => by
    obtain ⟨h1, h2⟩ := and2 h
    exact .cons (dfB_rep h1 H L loc) (dfsB_rep h2 H L loc)
  | [], _ :: _, h, _, _, _ => by cases h
  | _ :: _, [], h, _, _, _ => by cases h
def BindsAll : List Ent → Prop
  | [] => True
  | e :: es => BindsP e ∧ BindsAll es
theorem BindsAll.at_ : ∀ {es : List Ent}, BindsAll es → ∀ e ∈ es, BindsP e
  | [], _, e, h => by cases h
  | a :: es, b, e, h => by
    rcases List.mem_cons.mp h with q | q
    · rw [q]
      exact b.1
    · exact BindsAll.at_ b.2 e q
theorem fnsOf_at : ∀ {es : List Ent} {i : Nat} {x : Str} {f n : Nat}, (fnsOf i es).lookup x = some (f, n) → i ≤ f ∧ ∃ e, es[f - i]? = some e ∧ e.x = x ∧ n = e.ps.length ∧ e.cl = none
  | [], _, _, _, _, h => by cases h
  | e :: es, i, x, f, n, h => by
    have next : (fnsOf (i + 1) es).lookup x = some (f, n) → i ≤ f ∧ ∃ e', (e :: es)[f - i]? = some e' ∧ e'.x = x ∧ n = e'.ps.length ∧ e'.cl = none := fun h => by
      obtain ⟨h1, e', h2, h3⟩ := fnsOf_at (es := es) h
      have z : f - i = (f - (i + 1)) + 1 := by omega
      exact ⟨by omega, e', by rw [z]; exact h2, h3⟩
    unfold fnsOf at h
    split at h
    · rename_i hc
      have h : (match x == e.x with
        | true => some (i, e.ps.length)
        | false => (fnsOf (i + 1) es).lookup x) = some (f, n) := h
      cases q : x == e.x with
      | true =>
        rw [q] at h
        cases h
        exact ⟨Nat.le_refl _, e, by rw [Nat.sub_self]; rfl, (eq_of_beq q).symm, rfl, hc⟩
      | false =>
        rw [q] at h
        exact next h
    · exact next h
theorem glbOf_at : ∀ {es : List (Str × D)} {i : Nat} {x : Str} {f : Nat}, (glbOf i es).lookup x = some f → i ≤ f ∧ ∃ d, es[f - i]? = some (x, d)
  | [], _, _, _, h => by cases h
  | e :: es, i, x, f, h => by
    have h : (match x == e.1 with
      | true => some i
      | false => (glbOf (i + 1) es).lookup x) = some f := h
    cases q : x == e.1 with
    | true =>
      rw [q] at h
      cases h
      refine ⟨Nat.le_refl _, e.2, ?_⟩
      rw [Nat.sub_self, eq_of_beq q]
      rfl
    | false =>
      rw [q] at h
      obtain ⟨h1, d, h2⟩ := glbOf_at (es := es) h
      refine ⟨by omega, d, ?_⟩
      have z : f - i = (f - (i + 1)) + 1 := by omega
      rw [z]
      exact h2
/-- what an exception is: its class by its name -/
def xrD (a : Option D) (d : Option Addr) (H : Hp) : Prop := match a with
  | some (.int i) => ∃ dx, d = some dx ∧ H dx = some (.xd [("line", .int i)])
  | _ => d = none
def xrOf (K : PySem.W.Frag) : Ex → Value → Option Addr → Hp → Prop := fun x cls d H => cls = .ref (He.ga K x.cls) ∧ xrD x.arg d H
theorem xr_dx {a : Option D} {d : Option Addr} {H : Hp} (h : xrD a d H) : DX d H := by
  unfold xrD at h
  split at h
  · obtain ⟨dx, e1, e2⟩ := h
    exact .inr ⟨dx, _, e1, e2⟩
  · exact .inl h
theorem xr_mono {a : Option D} {d : Option Addr} {H H' : Hp} (k : ∀ dx fs, H dx = some (.xd fs) → H' dx = some (.xd fs)) (h : xrD a d H) : xrD a d H' := by
  unfold xrD at h ⊢
  split at h
  · obtain ⟨dx, e1, e2⟩ := h
    exact ⟨dx, e1, k _ _ e2⟩
  · exact h
def gamOf (K : PySem.W.Frag) : Gam := ⟨K, xrOf K, fun x c d H O hO h => ⟨h.1, xr_mono (fun dx fs e => by
    unfold ov
    cases q : O.lookup dx with
    | none => exact e
    | some o =>
      rw [hO dx o q] at e
      cases e) h.2⟩, fun x c d H O h => ⟨h.1, xr_mono (fun dx fs e => by
    unfold ov at e
    cases q : O.lookup dx with
    | none =>
      rw [q] at e
      exact e
    | some o =>
      rw [q] at e
      cases e) h.2⟩⟩
theorem mem_fa1 {l : Lw} {e : Ent} (h : e ∈ l.tab) (hc : e.cl = none) : He.Fa.glo e.x ∈ l.fa := List.mem_append.mpr (.inl (List.mem_map.mpr ⟨e, List.mem_filter.mpr ⟨h, by rw [hc]; rfl⟩, rfl⟩))
theorem adr_none {K : PySem.W.Frag} {e : Ent} (hc : e.cl = none) : e.adr K = He.ga K e.x := by
  unfold Ent.adr
  rw [hc]
theorem entCB_ok {l : Lw} {K : PySem.W.Frag} {f n : Nat} {c x : Str} (h : entCB l f n c x false = true) : EntC l.tab K f n (He.ma K (He.ga K c) x) := by
  unfold entCB at h
  split at h
  · rename_i e he
    obtain ⟨h, h5⟩ := and2 h
    obtain ⟨h, h4⟩ := and2 h
    obtain ⟨h, h3⟩ := and2 h
    obtain ⟨h1, h2⟩ := and2 h
    refine ⟨e, he, of_decide_eq_true h1, ?_⟩
    unfold Ent.adr
    rw [of_decide_eq_true h2, of_decide_eq_true h3, of_decide_eq_true h4, of_decide_eq_true h5]
  · cases h
theorem entCM_ok {l : Lw} {K : PySem.W.Frag} {f n : Nat} {c x : Str} (h : entCM l f n c x = true) : EntC l.tab K f n (He5.wf K (He.ga K c) "classmethod" x) := by
  unfold entCM at h
  split at h
  · rename_i e he
    obtain ⟨h, h4⟩ := and2 h
    obtain ⟨h, h3⟩ := and2 h
    obtain ⟨h1, h2⟩ := and2 h
    refine ⟨e, he, of_decide_eq_true h1, ?_⟩
    unfold Ent.adr
    rw [of_decide_eq_true h2, of_decide_eq_true h3, of_decide_eq_true h4]
  · cases h
theorem entDB_ok {l : Lw} {K : PySem.W.Frag} {f n : Nat} {c x : Str} {dfl : List Df} (hd : ∀ e ∈ l.tab, ∃ fd, FunD K e.x e.qual e.pa e.body e.scope (e.dvs K) [] (e.adr K) fd) (hb : BdAll l.tab l.bds) (h : entDB l K f n c x dfl = true) : EntCd l.tab K f n (dfl.map Df.d) (He.ma K (He.ga K c) x) := by
  unfold entDB at h
  split at h
  · rename_i e he
    obtain ⟨h, h7⟩ := and2 h
    obtain ⟨h, h6⟩ := and2 h
    obtain ⟨h, h5⟩ := and2 h
    obtain ⟨h, h4⟩ := and2 h
    obtain ⟨h, h3⟩ := and2 h
    obtain ⟨h1, h2⟩ := and2 h
    have h1 : e.ps.length = n + dfl.length := of_decide_eq_true h1
    obtain ⟨fd, FD⟩ := hd e (List.mem_of_getElem? he)
    obtain ⟨e', he', b1, b2, b3, b4⟩ := hb.at_ _ (of_decide_eq_true h6)
    rw [he] at he'
    cases he'
    have hl : (e.dvs K).length = e.dfl.length := List.length_map ..
    have hne : e.dvs K ≠ [] := fun z => b1 (List.map_eq_nil_iff.mp z)
    obtain ⟨ds, q1, q2⟩ := FunD.binds1 (ps := e.ps) FD n (e.dfl.length - (e.ps.length - n)) hne (by rw [hl]; omega) fun T kV doc pm an cdv ct us its g1 g2 => b4 T kV doc pm an cdv ct us its g1 (by rw [g2, hl])
    refine ⟨e, fd, he, by rw [List.length_map]; exact h1, ?_, FD, ds, _, q2, q1, fun H L loc => ?_⟩
    · unfold Ent.adr
      rw [of_decide_eq_true h2, of_decide_eq_true h3, of_decide_eq_true h4, of_decide_eq_true h5]
    · have := dfsB_rep h7 H L loc
      rw [List.map_drop] at this
      exact this
  · cases h
theorem entCB_pr {l : Lw} {K : PySem.W.Frag} {f n : Nat} {c x : Str} (h : entCB l f n c x true = true) : EntC l.tab K f n (prG K (He.ma K (He.ga K c) x)) := by
  unfold entCB at h
  split at h
  · rename_i e he
    obtain ⟨h, h5⟩ := and2 h
    obtain ⟨h, h4⟩ := and2 h
    obtain ⟨h, h3⟩ := and2 h
    obtain ⟨h1, h2⟩ := and2 h
    refine ⟨e, he, of_decide_eq_true h1, ?_⟩
    unfold Ent.adr
    rw [of_decide_eq_true h2, of_decide_eq_true h3, of_decide_eq_true h4, of_decide_eq_true h5]
  · cases h
theorem ob_f {l : Lw} {K : PySem.W.Frag} {h : Heap} {mg : Str → Option Value} (X : K.In h) (G : h.Ns mainGlobals mg) (hd : ∀ e ∈ l.tab, ∃ fd, FunD K e.x e.qual e.pa e.body e.scope (e.dvs K) [] (e.adr K) fd) (hbd : BdAll l.tab l.bds) (gk : Glb.k K = l.cln.map (He.ga K)) {q : Ob} (hq : obB l K q = true) : ObF (gamOf K) mg l.tab q := by
  have cl : ∀ {k : Nat} {c : Str}, l.cln[k]? = some c → (Glb.k K)[k]? = some (He.ga K c) := fun e => by rw [gk, List.getElem?_map, e]; rfl
  cases q with
  | cls k =>
    unfold obB at hq
    dsimp only at hq
    split at hq
    · rename_i c hc
      exact ⟨_, cl hc, He.cls_ok hq⟩
    · cases hq
  | noat k x =>
    unfold obB at hq
    dsimp only at hq
    split at hq
    · rename_i c hc
      exact ⟨_, cl hc, He.noat_ok hq⟩
    · cases hq
  | meth x k f n =>
    unfold obB at hq
    dsimp only at hq
    split at hq
    · rename_i c hc
      obtain ⟨h1, h2⟩ := and2 hq
      exact ⟨_, cl hc, _, He.meth_ok h1, entCB_ok h2⟩
    · cases hq
  | prop x k f =>
    unfold obB at hq
    dsimp only at hq
    split at hq
    · rename_i c hc
      obtain ⟨hq, h5⟩ := and2 hq
      obtain ⟨hq, h4⟩ := and2 hq
      obtain ⟨hq, h3⟩ := and2 hq
      obtain ⟨h1, h2⟩ := and2 hq
      refine ⟨_, cl hc, He.ma K (He.ga K c) x, prG K (He.ma K (He.ga K c) x), ⟨of_decide_eq_true h1, of_decide_eq_true h2, of_decide_eq_true h3, ?_⟩, entCB_pr h5⟩
      split at h4
      · rename_i g r e
        exact ⟨r, by rw [of_decide_eq_true h4]; exact e⟩
      · cases h4
    · cases hq
  | make x k f n =>
    unfold obB at hq
    dsimp only at hq
    split at hq
    · rename_i c hc
      obtain ⟨hq, h4⟩ := and2 hq
      obtain ⟨hq, h3⟩ := and2 hq
      obtain ⟨h1, h2⟩ := and2 hq
      exact ⟨_, cl hc, _, He.mkr_ok h2, by rw [of_decide_eq_true h1]; exact He.glo_ok X G h3, entCB_ok h4⟩
    · cases hq
  | get k f =>
    unfold obB at hq
    dsimp only at hq
    split at hq
    · rename_i c hc
      obtain ⟨hq, h3⟩ := and2 hq
      obtain ⟨h1, h2⟩ := and2 hq
      obtain ⟨g1, g2⟩ := and2 h1
      exact ⟨_, cl hc, _, of_decide_eq_true g1, h2, g2, entCB_ok h3⟩
    · cases hq
  | eq k f =>
    unfold obB at hq
    dsimp only at hq
    split at hq
    · rename_i c hc
      obtain ⟨h1, h3⟩ := and2 hq
      obtain ⟨g1, g2⟩ := and2 h1
      exact ⟨_, cl hc, _, of_decide_eq_true g1, g2, entCB_ok h3⟩
    · cases hq
  | len k f =>
    unfold obB at hq
    dsimp only at hq
    split at hq
    · rename_i c hc
      obtain ⟨h1, h3⟩ := and2 hq
      obtain ⟨g1, g2⟩ := and2 h1
      exact ⟨_, cl hc, _, of_decide_eq_true g1, g2, entCB_ok h3⟩
    · cases hq
  | iop o k f =>
    unfold obB at hq
    dsimp only at hq
    split at hq
    · rename_i c hc
      obtain ⟨hq, h3⟩ := and2 hq
      obtain ⟨h1, h2⟩ := and2 hq
      obtain ⟨g1, g2⟩ := and2 h2
      exact ⟨_, cl hc, h1, _, of_decide_eq_true g1, g2, entCB_ok h3⟩
    · cases hq
  | isc x k =>
    unfold obB at hq
    dsimp only at hq
    split at hq
    · rename_i c hc
      obtain ⟨hq, h9⟩ := and2 hq
      obtain ⟨hq, h8⟩ := and2 hq
      obtain ⟨hq, h7⟩ := and2 hq
      obtain ⟨hq, h6⟩ := and2 hq
      obtain ⟨hq, h5⟩ := and2 hq
      obtain ⟨hq, h4⟩ := and2 hq
      obtain ⟨hq, h3⟩ := and2 hq
      obtain ⟨h1, h2⟩ := and2 hq
      exact ⟨_, cl hc, ⟨He.cls_ok h3, of_decide_eq_true h4, of_decide_eq_true h5, of_decide_eq_true h6, of_decide_eq_true h7, of_decide_eq_true h8, fun n hn => of_decide_eq_true (List.all_eq_true.mp h9 n hn)⟩, by rw [of_decide_eq_true h1]; exact He.glo_ok X G h2⟩
    · cases hq
  | bin o k f =>
    unfold obB at hq
    dsimp only at hq
    split at hq
    · rename_i c hc
      obtain ⟨h1, h2⟩ := and2 hq
      exact ⟨_, cl hc, _, binOwnB_ok h1, entCB_ok h2⟩
    · cases hq
  | call k f =>
    unfold obB at hq
    dsimp only at hq
    split at hq
    · rename_i c hc
      obtain ⟨hq, h3⟩ := and2 hq
      obtain ⟨h1, h2⟩ := and2 hq
      obtain ⟨g1, g2⟩ := and2 h1
      exact ⟨_, cl hc, _, of_decide_eq_true g1, g2, h2, entCB_ok h3⟩
    · cases hq
  | cmet q x k f n =>
    unfold obB at hq
    dsimp only at hq
    split at hq
    · rename_i c hc
      obtain ⟨hq, h7⟩ := and2 hq
      obtain ⟨hq, h6⟩ := and2 hq
      obtain ⟨hq, h5⟩ := and2 hq
      obtain ⟨hq, h4⟩ := and2 hq
      obtain ⟨hq, h3⟩ := and2 hq
      obtain ⟨h1, h2⟩ := and2 hq
      exact ⟨_, cl hc, _, _, _, ⟨h3, of_decide_eq_true h4⟩, He5.cmet_of h5 h6, by rw [of_decide_eq_true h1]; exact He.glo_ok X G h2, entCM_ok h7⟩
    · cases hq
  | maked x k f n dfl =>
    unfold obB at hq
    dsimp only at hq
    split at hq
    · rename_i c hc
      obtain ⟨hq, h4⟩ := and2 hq
      obtain ⟨hq, h3⟩ := and2 hq
      obtain ⟨h1, h2⟩ := and2 hq
      exact ⟨_, cl hc, _, He.mkr_ok h2, by rw [of_decide_eq_true h1]; exact He.glo_ok X G h3, entDB_ok hd hbd h4⟩
    · cases hq
  | gix x ys =>
    unfold obB at hq
    dsimp only at hq
    obtain ⟨hq, h3⟩ := and2 hq
    obtain ⟨h1, h2⟩ := and2 hq
    split at h2
    · rename_i o ho
      obtain ⟨g1, g2⟩ := and2 h2
      refine ⟨_, o, He.glo_ok X G h1, ho, of_decide_eq_true g1, Option.isNone_iff_eq_none.mp g2, ?_⟩
      have := tupB_wr h3
      rw [List.map_map] at this
      exact this
    · cases h2
theorem facts_of {l : Lw} {K : PySem.W.Frag} {h : Heap} {mg : Str → Option Value} (X : K.In h) (G : h.Ns mainGlobals mg) (c : SaysN l.fa l.tab l.mkn l.ex h K) (hb : BindsAll l.tab) (hbd : BdAll l.tab l.bds) (hok : l.ok = true) (gt : Glb.t = l.lm.map (·.lam)) (gk : Glb.k K = l.cln.map (He.ga K)) : Facts (gamOf K) mg l.G l.I l.tab l.lm := by
  obtain ⟨hok, ok4⟩ := and2 hok
  obtain ⟨hok, ok3⟩ := and2 hok
  obtain ⟨ht, ok2⟩ := and2 hok
  have cx := c.more
  obtain ⟨co, cx⟩ := and2 cx
  obtain ⟨co, ctk⟩ := and2 co
  obtain ⟨cin, co⟩ := and2 co
  obtain ⟨cx, _⟩ := and2 cx
  obtain ⟨cx, cv⟩ := and2 cx
  refine ⟨of_decide_eq_true ok4, gt.symm, fun i lam h => ?_, fun l h => List.all_eq_true.mp ok2 l h, fun x f n hx => ?_, fun i e he => ?_, fun e he => List.all_eq_true.mp ht e he, fun x j hx => ?_, fun x hx => ?_, fun x hx => ?_, fun q hq => ?_, fun q hq => ⟨He.ga K q.1, fun a cls d H hx => ⟨hx.1, xr_dx hx.2⟩, of_decide_eq_true (List.all_eq_true.mp cv q hq)⟩, fun q hq => ob_f X G c.def_ hbd gk (List.all_eq_true.mp co q hq), fun q hq => ?_, fun x hx => ?_⟩
  · rw [gt, List.getElem?_map] at h
    obtain ⟨e, h1, h2⟩ := Option.map_eq_some_iff.mp h
    exact ⟨e, h1, h2⟩
  · obtain ⟨_, e, h1, h2, h3, h4⟩ := fnsOf_at hx
    have hm := List.mem_of_getElem? h1
    refine ⟨e, h1, h2, h3, ?_⟩
    rw [show e.adr (gamOf K).K = He.ga K e.x from adr_none h4]
    exact He.glo_ok X G (c.fact _ (mem_fa1 hm h4))
  · have hm := List.mem_of_getElem? he
    obtain ⟨fd, F⟩ := c.def_ e hm
    exact ⟨fd, F, BindsP.binds (hb.at_ e hm) F⟩
  · obtain ⟨_, d, h1⟩ := glbOf_at hx
    obtain ⟨u, v, a1, a2, a3⟩ := cst_in X G (List.all_eq_true.mp (and2 cx).1 _ (List.mem_of_getElem? h1))
    refine ⟨u, v, d, a1, a2, ?_, a3⟩
    show (l.cst[j]?).map (·.2) = some d
    have h1 : l.cst[j]? = some (x, d) := h1
    rw [h1]
    rfl
  · exact He.free_ok X G (c.fact _ (List.mem_append.mpr (.inr (List.mem_append.mpr (.inl (List.mem_map_of_mem hx))))))
  · have f1 := c.fact (He.Fa.glo x) (List.mem_append.mpr (.inr (List.mem_append.mpr (.inr (List.mem_append.mpr (.inl (List.mem_map_of_mem hx)))))))
    have f2 := c.fact (He.Fa.exc x) (List.mem_append.mpr (.inr (List.mem_append.mpr (.inr (List.mem_append.mpr (.inr (List.mem_map_of_mem hx)))))))
    obtain ⟨g1, g2, g3, g4⟩ := He.exc_ok f2
    exact ⟨He.ga K x, _, _, _, _, PySem.F.excBase_ValueError, g1, He.glo_ok X G f1, g2, ⟨g3, g4⟩, fun z H => ⟨rfl, rfl⟩⟩
  · have c := List.all_eq_true.mp (and2 cx).2 q hq
    obtain ⟨c, c5⟩ := and2 c
    obtain ⟨c, c4⟩ := and2 c
    obtain ⟨c, c3⟩ := and2 c
    obtain ⟨c1, c2⟩ := and2 c
    exact ⟨He.ga K q.1, He.ga K q.2.1, He.ga K q.2.2.1, fun a cls d H hx => ⟨hx.1, xr_dx hx.2⟩, He.glo_ok X G c1, He.glo_ok X G c2, of_decide_eq_true c3, of_decide_eq_true c4, excB_ok c5⟩
  · obtain ⟨c1, c2⟩ := and2 (List.all_eq_true.mp ctk q hq)
    exact ⟨He.ga K q.1, He.ga K q.2.1, fun a cls d H hx => hx.1, He.glo_ok X G c1, of_decide_eq_true c2⟩
  · obtain ⟨c1, c2⟩ := and2 (List.all_eq_true.mp cin x hx)
    exact ⟨MX.xinB_ok X G c1, excB_ok c2, fun i cls d H => Iff.rfl⟩
/-- two with one image are one -/
theorem map_inj {α β : Type} {f : α → β} : ∀ {l : List α} {x y : α}, (l.map f).Nodup → x ∈ l → y ∈ l → f x = f y → x = y
  | [], x, _, _, h, _, _ => by cases h
  | a :: l, x, y, nd, hx, hy, e => by
    obtain ⟨n1, n2⟩ := List.nodup_cons.mp (show (f a :: l.map f).Nodup from nd)
    rcases List.mem_cons.mp hx with hx | hx <;> rcases List.mem_cons.mp hy with hy | hy
    · rw [hx, hy]
    · rw [hx] at e
      exact absurd (List.mem_map.mpr ⟨y, hy, e.symm⟩) n1
    · rw [hy] at e
      exact absurd (List.mem_map.mpr ⟨x, hx, e⟩) n1
    · exact map_inj n2 hx hy e
theorem mk_of {l : Lw} {K : PySem.W.Frag} {h base : Heap} {mg : Str → Option Value} (c : SaysN l.fa l.tab l.mkn l.ex h K) (hok : l.ok = true) (gT : Glb.T K = l.T K)
    (hT : ∀ p ∈ l.tf, LamX.TabB base mg (He.cT K p).1 (He.cT K p).2) : MkAt (gamOf K) base mg l.I l.tab := fun e he z hz => by
  obtain ⟨hok, ok4⟩ := and2 hok
  obtain ⟨hok, ok3⟩ := and2 hok
  have q := List.all_eq_true.mp ok3 e he
  unfold mkB at q
  rw [hz] at q
  obtain ⟨q, q3⟩ := and2 q
  obtain ⟨q1, q2⟩ := and2 q
  have q1 := of_decide_eq_true q1
  have q2 := of_decide_eq_true q2
  have q3 : e.cl = none := Option.isNone_iff_eq_none.mp q3
  have eq : e.qual = e.x := by
    unfold Ent.qual
    rw [q3]
  refine ⟨q1, fun cc oc od fd osl lk hc => ?_⟩
  rw [show e.adr (gamOf K).K = He.ga K e.x from adr_none q3] at lk
  have e4 : (He.cT K (e.x, none)).1 = cc := He.codeOf_eq (p := (e.x, none)) lk hc
  refine ⟨(He.cT K (e.x, none)).2, by rw [← e4]; exact hT _ (List.mem_map.mpr ⟨e.x, q2, rfl⟩), ?_, fun p hp w => ?_⟩
  · show _ ∈ Glb.T K
    rw [gT, q1, eq]
    exact List.mem_map.mpr ⟨e.x, q2, rfl⟩
  · have hp : p ∈ Glb.T K := hp
    rw [gT] at hp
    obtain ⟨y, hy, rfl⟩ := List.mem_map.mp hp
    have := map_inj (f := fun x : Str => (He.cT K (x, none)).2) (of_decide_eq_true (and2 (and2 c.more).2).2) hy q2 w
    rw [q1, eq, this]
/-- the run gives True -/
def Runs (l : Lw) (W k i : Nat) : Prop := ∀ ns : List Int, ns.length ≤ 63 → ∃ m, callF l.G (tabT l.tab l.lm) W k i [.scr ns] [] = .ok (.bl true) m
theorem spF_law {l : Lw} {W k i : Nat} {K : PySem.W.Frag} (hr : Runs l W k i) (gt : Glb.t = l.lm.map (·.lam)) (gT : Glb.T K = l.T K) (gk : Glb.k K = l.cln.map (He.ga K)) {H : Hp} {a : Addr} {ns : List Int} (hl : ns.length ≤ 63) (hH : ∀ p ∈ l.T K, H p.1 = some (.tbl #[])) (hS : SqL K H a (ns.map V.int)) :
    spF (gamOf K) 1 (callF l.G (tabT l.tab l.lm) W k i) [.ref a] H (fun v _ => v = .bl true) fun _ _ _ => False := by
  obtain ⟨m, e⟩ := hr ns hl
  have hz : ∀ {x : Addr}, Loc.z ⟨[], ⟨fun _ => False, fun _ => False, l.T K, l.lm.map (·.lam), l.cln.map (He.ga K)⟩⟩ x → H x = some (.tbl #[]) := fun {x} h => by
    rcases h with h | h
    · exact (show False from h).elim
    · obtain ⟨p, hp, rfl⟩ := List.mem_map.mp h
      exact hH p hp
  refine ⟨rfl, [.scr ns], [], ⟨[], ⟨fun _ => False, fun _ => False, l.T K, l.lm.map (·.lam), l.cln.map (He.ga K)⟩⟩, ⟨rfl, .nil, fun a h => absurd h (List.not_mem_nil), fun a h => ⟨_, hz h⟩, fun a h => absurd h (List.not_mem_nil), fun p h => LamX.TabS.nil (hH p h), fun a h => (show False from h).elim, ⟨gT.symm, gt.symm, gk.symm⟩, fun a h => (show False from h).elim, fun n c a h => nomatch (show (none : Option Cell) = some c from h)⟩, .cons (.scr ?_ ?_) .nil, ?_⟩
  · rcases hS with h | h
    · refine .inl ⟨h, ?_⟩
      rintro (⟨n, c, h, _⟩ | h2)
      · cases h
      · have h3 := hz h2
        rcases h with h | ⟨o, h⟩ <;> (rw [h3] at h; cases h)
    · exact .inr h
  · exact Nat.le_trans hl (by decide)
  · rw [e]
    intro v H' loc' s k r
    cases r
    rfl
end Mi
/-! Mini: from the run of the law to the law. -/
namespace Mi
open PySem PySem.Spec PyProof.Rows L2
variable [Glb]
theorem fn_cx0 {P : Program} {w : World} {K : PySem.W.Frag} {mg : Str → Option Value} {base : Heap} {k : Nat} {f : Addr} {fd : FuncData} {ps : List Str} {sp : Sp} (F : FnOk P w K mg base (L2N.CX P w) k f fd ps sp) :
    FnOk P w K mg base CX0 k f fd ps (fun vs H Q _ => sp vs H Q fun _ _ _ => False) :=
  ⟨fun vs H Q E h => F.len vs H Q _ h, fun A outer s H args us vs Q E hr he hb hv hs => codeAny_mono (F.run A outer s H args us vs Q (fun _ _ _ => False) hr he hb hv hs) fun r s' hq => by
    cases r with
    | error e =>
      obtain ⟨_, _, _, _, _, _, _, _, _, _, _, _, z⟩ := hq
      exact z.elim
    | ok fl => cases fl <;> exact hq⟩
/-- what a law's end asks -/
theorem law_end {l : Lw} {r : PySem.W.OpenLaw} {q : Program} {loose : List Str} {n W k i : Nat} {e : Ent} {x : Str} {XP : (Str → Option Value) → Heap → Prop} {d : DefRec} (gt : Glb.t = l.lm.map (·.lam)) (gT : ∀ K, Glb.T K = l.T K) (gk : ∀ K, Glb.k K = l.cln.map (He.ga K)) (hm : r.most = some 63) (hd : d.params.defaults = []) (hk : k ≤ 200) (hr : Runs l W k i) (he : l.tab[i]? = some e) (hcl : e.cl = none) (hdf : e.dfl = []) (hp : e.ps = [x])
    (hb : BindsAll l.tab) (hbd : BdAll l.tab l.bds) (hok : l.ok = true) (hn : d.name = e.x) (hroom : Room (lv l.I k) callerA) (hfl : FileOk r.prog l.I) :
    PySem.W.WalkO q loose XP (hookM n l.nms l.fa l.tab l.mkn l.ex).says r.row.toRowW d [] (fun f vs => PySem.call f vs) := by
  refine LamX.walk_ofTsE (l := r) (n := 63) (k := lv l.I k) (x := x) (CX := fun _ => L2.CX0) hm (by decide) hd hroom ?_ (fun _ _ _ _ _ z => z)
  intro w mg fa h Y G hmg
  obtain ⟨K, X, c⟩ := Y
  refine ⟨K, X, ?_⟩
  rw [hn] at hmg
  have F := facts_of X G c hb hbd hok gt (gk K)
  have hmem := List.mem_of_getElem? he
  obtain ⟨fd, FD⟩ := c.def_ e hmem
  have e2 := hmg.symm.trans (He.glo_ok X G (c.fact _ (mem_fa1 hmem hcl)))
  rw [← adr_none hcl] at e2
  cases e2
  have hbe := hb.at_ e hmem
  refine ⟨fd, l.tf.map (He.cT K), fun vs H Q _ => spF (gamOf K) 1 (callF l.G (tabT l.tab l.lm) W k i) vs H Q fun _ _ _ => False, fun p hp => ?_, fun p hp => ?_, fun p hp => ?_, fun s u => ?_, fun H a ns hl _ hH hS => spF_law hr gt (gT K) (gk K) hl (fun p hp => ?_) hS, fun base hK hN hT => ?_⟩
  · obtain ⟨y, hy, rfl⟩ := List.mem_map.mp hp
    exact c.empty y hy
  · obtain ⟨y, hy, rfl⟩ := List.mem_map.mp hp
    exact c.out y hy
  · obtain ⟨y, hy, rfl⟩ := List.mem_map.mp hp
    exact PySem.W.codeHd_of_K X (c.hd y hy)
  · have z : e.dvs K = [] := by
      unfold Ent.dvs
      rw [hdf]
      rfl
    rw [z] at FD
    have := FunD.bindsA (ps := e.ps) FD (hbe.1 hdf) s [u] (by rw [hp]; rfl)
    rw [hp] at this
    exact this
  · obtain ⟨y, hy, rfl⟩ := List.mem_map.mp hp
    exact hH (He.cT K (y, none)) (List.mem_map.mpr ⟨(y, none), List.mem_map.mpr ⟨y, hy, rfl⟩, rfl⟩)
  · have hM := mk_of c hok (gT K) fun p hp => hT _ (List.mem_map.mpr ⟨p, hp, rfl⟩)
    have := fn_cx0 ((all_ok (P := r.prog) (w := w) (base := base) (W := W) F hM hfl k).1 i e he fd FD)
    rw [hp] at this
    exact this
end Mi
namespace K25
open PySem PySem.Spec PyProof.Rows L2 Mi
def top (i : Nat) : Stmt := PySem.Challenge.pw_facebilled_k25_errors_of_programs_and_ho.main.body.getD i (.Pass ⟨0, 0, 0, 0⟩)
abbrev i_is_integer : Nat := 0
abbrev i_is_face : Nat := 1
abbrev i_is_among : Nat := 2
abbrev i_numbers_in : Nat := 3
abbrev i_are_two : Nat := 4
abbrev i_is_test : Nat := 5
abbrev i_is_statement : Nat := 6
abbrev i_is_body : Nat := 7
abbrev i_bodies_of : Nat := 8
abbrev i_listed : Nat := 9
abbrev i_all_statements : Nat := 10
abbrev i_is_program : Nat := 11
abbrev i_is_event : Nat := 12
abbrev i_is_history : Nat := 13
abbrev i_need_program : Nat := 14
abbrev i_need_statement_number : Nat := 15
abbrev i_first_number : Nat := 16
abbrev i_with_item : Nat := 17
abbrev i_body_done : Nat := 18
abbrev i_begun : Nat := 19
abbrev i_event_done : Nat := 20
abbrev i_with_sum : Nat := 21
abbrev i_House___init__ : Nat := 22
abbrev i_House_history : Nat := 23
abbrev i_House_happen : Nat := 24
abbrev i_House_last_sum : Nat := 25
abbrev i_House_read : Nat := 26
abbrev i_House_guess : Nat := 27
abbrev i_House_swap : Nat := 28
abbrev i_House_move : Nat := 29
abbrev i_House___iadd__ : Nat := 30
abbrev i_House_undo : Nat := 31
abbrev i_House___getitem__ : Nat := 32
abbrev i_House___len__ : Nat := 33
abbrev i_House___eq__ : Nat := 34
abbrev i_need_rule : Nat := 35
abbrev i_body_lines : Nat := 36
abbrev i_lines_of : Nat := 37
abbrev i_is_line : Nat := 38
abbrev i_body_in : Nat := 39
abbrev i_program_in : Nat := 40
abbrev i_with_pair : Nat := 41
abbrev i_less_number : Nat := 42
abbrev i_Program___init__ : Nat := 43
abbrev i_Program_told : Nat := 44
abbrev i_Program_source : Nat := 45
abbrev i_Program___add__ : Nat := 46
abbrev i_Program___sub__ : Nat := 47
abbrev i_Program___call__ : Nat := 48
abbrev i_Program___getitem__ : Nat := 49
abbrev i_Program_follows : Nat := 50
abbrev i_Program_like : Nat := 51
abbrev i__law_source : Nat := 52
abbrev i__law_draw : Nat := 53
abbrev i__law_of : Nat := 54
abbrev i__law_error : Nat := 55
abbrev i__law_more : Nat := 56
abbrev i__law_calls : Nat := 57
abbrev i_law : Nat := 58
def topC (i k : Nat) : Stmt := match top i with
  | .ClassDef _ _ _ b _ _ _ _ _ _ _ => b.getD k (.Pass ⟨0, 0, 0, 0⟩)
  | s => s
abbrev j_ROUND : Nat := 0
abbrev j_PLAIN : Nat := 1
abbrev j_FLAGS : Nat := 2
abbrev j_REGISTERS : Nat := 3
abbrev j_KINDS : Nat := 4
abbrev j_MOST_DEEP : Nat := 5
abbrev j_MOST_STATEMENTS : Nat := 6
abbrev j_MOST_EVENTS : Nat := 7
abbrev j_RULES : Nat := 8
abbrev j_FOUR_KINDS : Nat := 9
def f_is_integer : FD := ⟨3, 0, [
  .ret (.bo true [(.isi (.var 0) .int), (.nt (.isi (.var 0) .bool)), (.chn .le .le (.var 1) (.var 0) (.var 2))])]⟩
def e_is_integer : Ent := ⟨"is_integer", defArgs (top 21), defBody (top 21), defScope (top 21), ["value", "least", "most"], ["value", "least", "most"], f_is_integer, none, [], false, false⟩
theorem b_is_integer : BindsP e_is_integer := ⟨fun _ _ _ _ _ _ _ us hl => match us, hl with | [_, _, _], _ => rfl, fun h => absurd rfl h⟩
def f_is_face : FD := ⟨1, 0, [
  .ret (.call i_is_integer [(.var 0), (.cst (.int 0)), (.bin .sub (.glb j_ROUND) (.cst (.int 1)))])]⟩
def e_is_face : Ent := ⟨"is_face", defArgs (top 22), defBody (top 22), defScope (top 22), ["value"], ["value"], f_is_face, none, [], false, false⟩
theorem b_is_face : BindsP e_is_face := ⟨fun _ _ _ _ _ _ _ us hl => match us, hl with | [_], _ => rfl, fun h => absurd rfl h⟩
def f_is_among : FD := ⟨2, 0, [
  .ret (.bo true [(.isi (.var 1) .str), (.cmp .in_ (.var 1) (.var 0))])]⟩
def e_is_among : Ent := ⟨"is_among", defArgs (top 23), defBody (top 23), defScope (top 23), ["words", "value"], ["words", "value"], f_is_among, none, [], false, false⟩
theorem b_is_among : BindsP e_is_among := ⟨fun _ _ _ _ _ _ _ us hl => match us, hl with | [_, _], _ => rfl, fun h => absurd rfl h⟩
def f_numbers_in : FD := ⟨1, 0, [
  .ret (.bin .add (.glb j_PLAIN) (.ite (.cmp .eq (.var 0) (.cst (.str "swap"))) (.tup [(.cst (.str "new"))]) (.tup [])))]⟩
def e_numbers_in : Ent := ⟨"numbers_in", defArgs (top 24), defBody (top 24), defScope (top 24), ["kind"], ["kind"], f_numbers_in, none, [], false, false⟩
theorem b_numbers_in : BindsP e_numbers_in := ⟨fun _ _ _ _ _ _ _ us hl => match us, hl with | [_], _ => rfl, fun h => absurd rfl h⟩
def c_are_two_0 : E := .lc (.call i_is_among [(.var 0), (.var 2)]) (.one 2) .seq [(.var 1)] none
def f_are_two : FD := ⟨2, 1, [
  .ret (.bo true [(.cmp .eq (.bi .len [(.var 1)]) (.cst (.int 2))), (.bi .all [c_are_two_0]), (.cmp .ne (.ix (.var 1) (.cst (.int 0))) (.ix (.var 1) (.cst (.int 1))))])]⟩
def e_are_two : Ent := ⟨"are_two", defArgs (top 25), defBody (top 25), defScope (top 25), ["numbers", "values", "value"], ["numbers", "values"], f_are_two, none, [], false, false⟩
theorem b_are_two : BindsP e_are_two := ⟨fun _ _ _ _ _ _ _ us hl => match us, hl with | [_, _], _ => rfl, fun h => absurd rfl h⟩
def f_is_test : FD := ⟨2, 0, [
  .ife (.bo false [(.nt (.isi (.var 0) .tuple)), (.cmp .eq (.var 0) (.tup [])), (.nt (.isi (.ix (.var 0) (.cst (.int 0))) .str))]) [.ret (.cst (.bl false))] [],
  .ife (.cmp .eq (.ix (.var 0) (.cst (.int 0))) (.cst (.str "flag"))) [.ret (.bo true [(.cmp .eq (.bi .len [(.var 0)]) (.cst (.int 2))), (.call i_is_among [(.glb j_FLAGS), (.ix (.var 0) (.cst (.int 1)))])])] [],
  .ret (.bo true [(.cmp .eq (.ix (.var 0) (.cst (.int 0))) (.cst (.str "less"))), (.call i_are_two [(.var 1), (.sl (.var 0) (some (.cst (.int 1))) none)])])]⟩
def e_is_test : Ent := ⟨"is_test", defArgs (top 26), defBody (top 26), defScope (top 26), ["value", "numbers"], ["value", "numbers"], f_is_test, none, [], false, false⟩
theorem b_is_test : BindsP e_is_test := ⟨fun _ _ _ _ _ _ _ us hl => match us, hl with | [_, _], _ => rfl, fun h => absurd rfl h⟩
def c_is_statement_0 : E := .lc (.call i_is_body [(.var 6), (.var 1), (.bin .sub (.var 2) (.cst (.int 1)))]) (.one 6) .seq [(.sl (.var 4) (some (.cst (.int 1))) none)] none
def f_is_statement : FD := ⟨3, 4, [
  .ife (.bo false [(.nt (.isi (.var 0) .tuple)), (.cmp .eq (.var 0) (.tup [])), (.nt (.isi (.ix (.var 0) (.cst (.int 0))) .str)), (.cmp .lt (.var 2) (.cst (.int 1)))]) [.ret (.cst (.bl false))] [],
  .asg (.many [3, 4]) (.tup [(.ix (.var 0) (.cst (.int 0))), (.sl (.var 0) (some (.cst (.int 1))) none)]),
  .ife (.cmp .eq (.var 3) (.cst (.str "if"))) [.asg (.one 5) (.bo true [(.cmp .eq (.bi .len [(.var 4)]) (.cst (.int 3))), (.call i_is_test [(.ix (.var 4) (.cst (.int 0))), (.var 1)])]), .ret (.bo true [(.var 5), (.bi .all [c_is_statement_0])])] [],
  .ife (.cmp .eq (.var 3) (.cst (.str "round"))) [.ret (.cmp .eq (.var 4) (.tup []))] [],
  .ife (.cmp .in_ (.var 3) (.tup [(.cst (.str "up")), (.cst (.str "down"))])) [.ret (.bo true [(.cmp .eq (.bi .len [(.var 4)]) (.cst (.int 1))), (.call i_is_among [(.glb j_FLAGS), (.ix (.var 4) (.cst (.int 0)))])])] [],
  .ife (.cmp .eq (.var 3) (.cst (.str "keep"))) [.ret (.bo true [(.call i_are_two [(.var 1), (.var 4)]), (.cmp .in_ (.ix (.var 4) (.cst (.int 0))) (.glb j_REGISTERS))])] [],
  .ret (.bo true [(.cmp .eq (.var 3) (.cst (.str "bill"))), (.call i_are_two [(.var 1), (.var 4)])])]⟩
def e_is_statement : Ent := ⟨"is_statement", defArgs (top 27), defBody (top 27), defScope (top 27), ["value", "numbers", "deep", "word", "rest", "good", "body"], ["value", "numbers", "deep"], f_is_statement, none, [], false, false⟩
theorem b_is_statement : BindsP e_is_statement := ⟨fun _ _ _ _ _ _ _ us hl => match us, hl with | [_, _, _], _ => rfl, fun h => absurd rfl h⟩
def c_is_body_0 : E := .lc (.call i_is_statement [(.var 3), (.var 1), (.var 2)]) (.one 3) .seq [(.var 0)] none
def f_is_body : FD := ⟨3, 1, [
  .ife (.bo false [(.nt (.isi (.var 0) .tuple)), (.cmp .gt (.bi .len [(.var 0)]) (.cst (.int 6)))]) [.ret (.cst (.bl false))] [],
  .ret (.bi .all [c_is_body_0])]⟩
def e_is_body : Ent := ⟨"is_body", defArgs (top 28), defBody (top 28), defScope (top 28), ["value", "numbers", "deep", "statement"], ["value", "numbers", "deep"], f_is_body, none, [], false, false⟩
theorem b_is_body : BindsP e_is_body := ⟨fun _ _ _ _ _ _ _ us hl => match us, hl with | [_, _, _], _ => rfl, fun h => absurd rfl h⟩
def f_bodies_of : FD := ⟨1, 0, [
  .ret (.ite (.cmp .eq (.ix (.var 0) (.cst (.int 0))) (.cst (.str "if"))) (.bi .list [(.sl (.var 0) (some (.cst (.int 2))) none)]) (.lst []))]⟩
def e_bodies_of : Ent := ⟨"bodies_of", defArgs (top 29), defBody (top 29), defScope (top 29), ["statement"], ["statement"], f_bodies_of, none, [], false, false⟩
theorem b_bodies_of : BindsP e_bodies_of := ⟨fun _ _ _ _ _ _ _ us hl => match us, hl with | [_], _ => rfl, fun h => absurd rfl h⟩
def l_listed_0_b : List S := [.asg (.one 1) (.bin .add (.var 1) (.call i_listed [(.var 3)]))]
def l_listed_0 : S := .forr (.one 3) .seq [(.call i_bodies_of [(.var 2)])] l_listed_0_b
def l_listed_1_b : List S := [.asg (.one 1) (.bin .add (.var 1) (.lst [(.var 2)])), l_listed_0]
def l_listed_1 : S := .forr (.one 2) .seq [(.var 0)] l_listed_1_b
def f_listed : FD := ⟨1, 3, [
  .asg (.one 1) (.lst []),
  l_listed_1,
  .ret (.var 1)]⟩
def e_listed : Ent := ⟨"listed", defArgs (top 30), defBody (top 30), defScope (top 30), ["body", "found", "statement", "inner"], ["body"], f_listed, none, [], false, false⟩
theorem b_listed : BindsP e_listed := ⟨fun _ _ _ _ _ _ _ us hl => match us, hl with | [_], _ => rfl, fun h => absurd rfl h⟩
def l_all_statements_0_b : List S := [.asg (.one 1) (.bin .add (.var 1) (.call i_listed [(.var 2)]))]
def l_all_statements_0 : S := .forr (.one 2) .seq [(.var 0)] l_all_statements_0_b
def f_all_statements : FD := ⟨1, 2, [
  .asg (.one 1) (.lst []),
  l_all_statements_0,
  .ret (.var 1)]⟩
def e_all_statements : Ent := ⟨"all_statements", defArgs (top 31), defBody (top 31), defScope (top 31), ["program", "found", "body"], ["program"], f_all_statements, none, [], false, false⟩
theorem b_all_statements : BindsP e_all_statements := ⟨fun _ _ _ _ _ _ _ us hl => match us, hl with | [_], _ => rfl, fun h => absurd rfl h⟩
def c_is_program_0 : E := .lc (.call i_is_body [(.var 1), (.call i_numbers_in [(.var 2)]), (.glb j_MOST_DEEP)]) (.many [1, 2]) .zip [(.var 0), (.glb j_KINDS)] none
def f_is_program : FD := ⟨1, 2, [
  .ife (.bo false [(.nt (.isi (.var 0) .tuple)), (.cmp .ne (.bi .len [(.var 0)]) (.cst (.int 4)))]) [.ret (.cst (.bl false))] [],
  .ife (.nt (.bi .all [c_is_program_0])) [.ret (.cst (.bl false))] [],
  .ret (.cmp .le (.bi .len [(.call i_all_statements [(.var 0)])]) (.glb j_MOST_STATEMENTS))]⟩
def e_is_program : Ent := ⟨"is_program", defArgs (top 32), defBody (top 32), defScope (top 32), ["value", "body", "kind"], ["value"], f_is_program, none, [], false, false⟩
theorem b_is_program : BindsP e_is_program := ⟨fun _ _ _ _ _ _ _ us hl => match us, hl with | [_], _ => rfl, fun h => absurd rfl h⟩
def c_is_event_0 : E := .lc (.call i_is_face [(.var 1)]) (.one 1) .seq [(.sl (.var 0) (some (.cst (.int 1))) none)] none
def f_is_event : FD := ⟨1, 1, [
  .ife (.bo false [(.nt (.isi (.var 0) .tuple)), (.cmp .eq (.var 0) (.tup [])), (.nt (.call i_is_among [(.glb j_KINDS), (.ix (.var 0) (.cst (.int 0)))]))]) [.ret (.cst (.bl false))] [],
  .ife (.cmp .ne (.bi .len [(.var 0)]) (.ite (.cmp .eq (.ix (.var 0) (.cst (.int 0))) (.cst (.str "swap"))) (.cst (.int 3)) (.cst (.int 2)))) [.ret (.cst (.bl false))] [],
  .ret (.bi .all [c_is_event_0])]⟩
def e_is_event : Ent := ⟨"is_event", defArgs (top 33), defBody (top 33), defScope (top 33), ["value", "part"], ["value"], f_is_event, none, [], false, false⟩
theorem b_is_event : BindsP e_is_event := ⟨fun _ _ _ _ _ _ _ us hl => match us, hl with | [_], _ => rfl, fun h => absurd rfl h⟩
def c_is_history_0 : E := .lc (.call i_is_event [(.var 1)]) (.one 1) .seq [(.ix (.var 0) (.cst (.int 1)))] none
def f_is_history : FD := ⟨1, 1, [
  .ife (.bo false [(.nt (.isi (.var 0) .tuple)), (.cmp .ne (.bi .len [(.var 0)]) (.cst (.int 2))), (.nt (.call i_is_face [(.ix (.var 0) (.cst (.int 0)))]))]) [.ret (.cst (.bl false))] [],
  .ife (.bo false [(.nt (.isi (.ix (.var 0) (.cst (.int 1))) .tuple)), (.cmp .gt (.bi .len [(.ix (.var 0) (.cst (.int 1)))]) (.glb j_MOST_EVENTS))]) [.ret (.cst (.bl false))] [],
  .ret (.bi .all [c_is_history_0])]⟩
def e_is_history : Ent := ⟨"is_history", defArgs (top 34), defBody (top 34), defScope (top 34), ["value", "event"], ["value"], f_is_history, none, [], false, false⟩
theorem b_is_history : BindsP e_is_history := ⟨fun _ _ _ _ _ _ _ us hl => match us, hl with | [_], _ => rfl, fun h => absurd rfl h⟩
def f_need_program : FD := ⟨1, 0, [
  .ife (.nt (.call i_is_program [(.var 0)])) [.raise_ "InvalidProgram" [(.cst (.str "not a program"))]] []]⟩
def e_need_program : Ent := ⟨"need_program", defArgs (top 35), defBody (top 35), defScope (top 35), ["value"], ["value"], f_need_program, none, [], false, false⟩
theorem b_need_program : BindsP e_need_program := ⟨fun _ _ _ _ _ _ _ us hl => match us, hl with | [_], _ => rfl, fun h => absurd rfl h⟩
def f_need_statement_number : FD := ⟨2, 0, [
  .ife (.nt (.call i_is_integer [(.var 1), (.cst (.int 0)), (.bin .sub (.bi .len [(.call i_all_statements [(.var 0)])]) (.cst (.int 1)))])) [.raise_ "InvalidNumber" [(.cst (.str "not the number of a statement"))]] []]⟩
def e_need_statement_number : Ent := ⟨"need_statement_number", defArgs (top 36), defBody (top 36), defScope (top 36), ["program", "value"], ["program", "value"], f_need_statement_number, none, [], false, false⟩
theorem b_need_statement_number : BindsP e_need_statement_number := ⟨fun _ _ _ _ _ _ _ us hl => match us, hl with | [_, _], _ => rfl, fun h => absurd rfl h⟩
def c_first_number_0 : E := .lc (.bi .len [(.call i_listed [(.var 2)])]) (.one 2) .seq [(.sl (.var 0) none (some (.gix "KINDS" ["read", "guess", "swap", "move"] (.var 1))))] none
def f_first_number : FD := ⟨2, 1, [
  .ret (.bi .sum [c_first_number_0])]⟩
def e_first_number : Ent := ⟨"first_number", defArgs (top 40), defBody (top 40), defScope (top 40), ["program", "kind", "body"], ["program", "kind"], f_first_number, none, [], false, false⟩
theorem b_first_number : BindsP e_first_number := ⟨fun _ _ _ _ _ _ _ us hl => match us, hl with | [_, _], _ => rfl, fun h => absurd rfl h⟩
def f_with_item : FD := ⟨3, 1, [
  .asg (.one 3) (.cpd (.var 0)),
  .seti (.var 3) (.var 1) (.var 2),
  .ret (.frz (.var 3))]⟩
def e_with_item : Ent := ⟨"with_item", defArgs (top 42), defBody (top 42), defScope (top 42), ["items", "name", "value", "found"], ["items", "name", "value"], f_with_item, none, [], false, false⟩
theorem b_with_item : BindsP e_with_item := ⟨fun _ _ _ _ _ _ _ us hl => match us, hl with | [_, _, _], _ => rfl, fun h => absurd rfl h⟩
def c_body_done_0 : E := .lc (.bi .len [(.call i_listed [(.var 11)])]) (.one 11) .seq [(.call i_bodies_of [(.var 7)])] none
def l_body_done_0_b : List S := [.asg (.many [8, 6]) (.tup [(.ix (.var 7) (.cst (.int 0))), (.bin .add (.var 6) (.tup [(.var 1)]))]), .ife (.cmp .eq (.var 8) (.cst (.str "if"))) [.asg (.one 9) (.ix (.var 7) (.cst (.int 1))), .asg (.one 10) (.ite (.cmp .eq (.ix (.var 9) (.cst (.int 0))) (.cst (.str "flag"))) (.ix (.var 4) (.gix "FLAGS" ["p", "q"] (.ix (.var 9) (.cst (.int 1))))) (.cmp .lt (.ix (.var 3) (.ix (.var 9) (.cst (.int 1)))) (.ix (.var 3) (.ix (.var 9) (.cst (.int 2)))))), .asg (.one 11) (.bin .add (.bin .add (.var 1) (.cst (.int 1))) (.ite (.var 10) (.cst (.int 0)) (.bi .len [(.call i_listed [(.ix (.var 7) (.cst (.int 2)))])]))), .asg (.one 2) (.tup [(.var 3), (.var 4), (.var 5), (.var 6)]), .asg (.many [3, 4, 5, 6]) (.call i_body_done [(.ix (.var 7) (.ite (.var 10) (.cst (.int 2)) (.cst (.int 3)))), (.var 11), (.var 2)])] [.ife (.cmp .in_ (.var 8) (.tup [(.cst (.str "up")), (.cst (.str "down"))])) [.asg (.one 12) (.gix "FLAGS" ["p", "q"] (.ix (.var 7) (.cst (.int 1)))), .asg (.one 4) (.bin .add (.bin .add (.sl (.var 4) none (some (.var 12))) (.tup [(.cmp .eq (.var 8) (.cst (.str "up")))])) (.sl (.var 4) (some (.bin .add (.var 12) (.cst (.int 1)))) none))] [.ife (.cmp .eq (.var 8) (.cst (.str "keep"))) [.asg (.one 3) (.call i_with_item [(.var 3), (.ix (.var 7) (.cst (.int 1))), (.ix (.var 3) (.ix (.var 7) (.cst (.int 2))))])] [.asg (.one 5) (.bin .add (.var 5) (.ite (.cmp .eq (.var 8) (.cst (.str "round"))) (.glb j_ROUND) (.bin .sub (.ix (.var 3) (.ix (.var 7) (.cst (.int 1)))) (.ix (.var 3) (.ix (.var 7) (.cst (.int 2)))))))]]], .asg (.one 1) (.bin .add (.bin .add (.var 1) (.cst (.int 1))) (.bi .sum [c_body_done_0]))]
def l_body_done_0 : S := .forr (.one 7) .seq [(.var 0)] l_body_done_0_b
def f_body_done : FD := ⟨3, 10, [
  .asg (.many [3, 4, 5, 6]) (.var 2),
  l_body_done_0,
  .ret (.tup [(.var 3), (.var 4), (.var 5), (.var 6)])]⟩
def e_body_done : Ent := ⟨"body_done", defArgs (top 43), defBody (top 43), defScope (top 43), ["body", "first", "now", "values", "flags", "billed", "numbers", "statement", "word", "test", "hit", "inner", "at"], ["body", "first", "now"], f_body_done, none, [], false, false⟩
theorem b_body_done : BindsP e_body_done := ⟨fun _ _ _ _ _ _ _ us hl => match us, hl with | [_, _, _], _ => rfl, fun h => absurd rfl h⟩
def f_begun : FD := ⟨1, 0, [
  .ret (.tup [(.var 0), (.tup [(.var 0), (.var 0)]), (.tup [(.cst (.bl false)), (.cst (.bl false))]), (.cst (.int 0)), (.cst (.int 0))])]⟩
def e_begun : Ent := ⟨"begun", defArgs (top 44), defBody (top 44), defScope (top 44), ["first"], ["first"], f_begun, none, [], false, false⟩
theorem b_begun : BindsP e_begun := ⟨fun _ _ _ _ _ _ _ us hl => match us, hl with | [_], _ => rfl, fun h => absurd rfl h⟩
def f_event_done : FD := ⟨3, 14, [
  .asg (.many [3, 4, 5, 6, 7]) (.var 1),
  .asg (.many [8, 9]) (.tup [(.ix (.var 2) (.cst (.int 0))), (.ite (.cmp .eq (.ix (.var 2) (.cst (.int 0))) (.cst (.str "guess"))) (.cst (.int 0)) (.ix (.var 2) (.cst (.int 1))))]),
  .asg (.one 10) (.bin .mod (.bin .add (.var 3) (.var 9)) (.glb j_ROUND)),
  .asg (.one 11) (.dct [.inr "a", .inr "b", .inr "face"] [(.ix (.var 4) (.cst (.int 0))), (.ix (.var 4) (.cst (.int 1))), (.ite (.cmp .eq (.var 8) (.cst (.str "guess"))) (.ix (.var 2) (.cst (.int 1))) (.var 10))]),
  .ife (.cmp .eq (.var 8) (.cst (.str "swap"))) [.asg (.one 11) (.call i_with_item [(.var 11), (.cst (.str "new")), (.ix (.var 2) (.cst (.int 2)))])] [],
  .asg (.one 12) (.ix (.var 0) (.gix "KINDS" ["read", "guess", "swap", "move"] (.var 8))),
  .asg (.many [13, 5, 14, 15]) (.call i_body_done [(.var 12), (.call i_first_number [(.var 0), (.var 8)]), (.tup [(.var 11), (.var 5), (.cst (.int 0)), (.tup [])])]),
  .asg (.one 6) (.bin .sub (.bin .add (.var 6) (.var 14)) (.var 9)),
  .asg (.one 10) (.ite (.cmp .eq (.var 8) (.cst (.str "swap"))) (.ix (.var 2) (.cst (.int 2))) (.var 10)),
  .asg (.one 16) (.tup [(.var 10), (.tup [(.ix (.var 13) (.cst (.str "a"))), (.ix (.var 13) (.cst (.str "b")))]), (.var 5), (.var 6), (.var 7)]),
  .ife (.cmp .eq (.var 8) (.cst (.str "move"))) [.asg (.one 16) (.bin .add (.sl (.var 16) none (some (.cst (.int 3)))) (.tup [(.cst (.int 0)), (.bin .add (.var 7) (.cst (.int 1)))]))] [],
  .ret (.tup [(.var 16), (.var 14), (.var 6), (.var 15)])]⟩
def e_event_done : Ent := ⟨"event_done", defArgs (top 45), defBody (top 45), defScope (top 45), ["program", "state", "event", "face", "registers", "flags", "balance", "person", "kind", "use", "true", "seen", "body", "values", "billed", "numbers", "later"], ["program", "state", "event"], f_event_done, none, [], false, false⟩
theorem b_event_done : BindsP e_event_done := ⟨fun _ _ _ _ _ _ _ us hl => match us, hl with | [_, _, _], _ => rfl, fun h => absurd rfl h⟩
def f_with_sum : FD := ⟨3, 0, [
  .ret (.bin .add (.bin .add (.sl (.var 0) none (some (.var 1))) (.tup [(.bin .add (.ix (.var 0) (.var 1)) (.var 2))])) (.sl (.var 0) (some (.bin .add (.var 1) (.cst (.int 1)))) none))]⟩
def e_with_sum : Ent := ⟨"with_sum", defArgs (top 49), defBody (top 49), defScope (top 49), ["spent", "person", "billed"], ["spent", "person", "billed"], f_with_sum, none, [], false, false⟩
theorem b_with_sum : BindsP e_with_sum := ⟨fun _ _ _ _ _ _ _ us hl => match us, hl with | [_, _, _], _ => rfl, fun h => absurd rfl h⟩
def f_House___init__ : FD := ⟨3, 0, [
  .exp (.call i_need_program [(.var 1)]),
  .ife (.nt (.call i_is_face [(.var 2)])) [.raise_ "InvalidFace" [(.cst (.str "not a face"))]] [],
  .setf 0 (.var 0) "base" (.var 1),
  .setf 0 (.var 0) "first" (.var 2),
  .setf 0 (.var 0) "now" (.tup [(.call i_begun [(.var 2)]), (.tup []), (.tup []), (.tup [(.cst (.int 0))])]),
  .setf 0 (.var 0) "past" (.newl [])]⟩
def e_House___init__ : Ent := ⟨"__init__", defArgs (topC 50 0), defBody (topC 50 0), defScope (topC 50 0), ["self", "program", "first"], ["self", "program", "first"], f_House___init__, (some "House"), [.int 0], false, false⟩
theorem b_House___init__ : BindsP e_House___init__ := ⟨(fun h => nomatch h), fun _ _ _ _ _ _ _ _ us its hl hd => match us, hl, its, hd with | [_, _, _], _, [_], _ => ⟨_, rfl, rfl⟩⟩
def f_House_history : FD := ⟨1, 0, [
  .ret (.tup [(.fld 0 "first" (.var 0)), (.ix (.fld 0 "now" (.var 0)) (.cst (.int 1)))])]⟩
def e_House_history : Ent := ⟨"history", defArgs (topC 50 5), defBody (topC 50 5), defScope (topC 50 5), ["self"], ["self"], f_House_history, (some "House"), [], true, false⟩
theorem b_House_history : BindsP e_House_history := ⟨fun _ _ _ _ _ _ _ us hl => match us, hl with | [_], _ => rfl, fun h => absurd rfl h⟩
def c_House.happen_0 : E := .lc (.call i_is_event [(.var 6)]) (.one 6) .seq [(.var 1)] none
def l_House.happen_0_b : List S := [.asg (.one 7) (.ix (.var 2) (.cst (.int 4))), .asg (.many [2, 8, 9, 10]) (.call i_event_done [(.fld 0 "base" (.var 0)), (.var 2), (.var 6)]), .asg (.one 5) (.call i_with_sum [(.var 5), (.var 7), (.var 8)]), .asg (.many [3, 4]) (.tup [(.bin .add (.var 3) (.tup [(.var 6)])), (.bin .add (.var 4) (.tup [(.var 8)]))]), .ife (.cmp .eq (.ix (.var 6) (.cst (.int 0))) (.cst (.str "move"))) [.asg (.one 5) (.bin .add (.var 5) (.tup [(.cst (.int 0))]))] []]
def l_House.happen_0 : S := .forr (.one 6) .seq [(.var 1)] l_House.happen_0_b
def f_House_happen : FD := ⟨2, 9, [
  .ife (.bo false [(.nt (.isi (.var 1) .tuple)), (.nt (.bi .all [c_House.happen_0]))]) [.raise_ "InvalidEvent" [(.cst (.str "not events"))]] [],
  .ife (.cmp .gt (.bin .add (.bi .len [(.ix (.fld 0 "now" (.var 0)) (.cst (.int 1)))]) (.bi .len [(.var 1)])) (.glb j_MOST_EVENTS)) [.raise_ "InvalidEvent" [(.cst (.str "too many events"))]] [],
  .asg (.many [2, 3, 4, 5]) (.fld 0 "now" (.var 0)),
  l_House.happen_0,
  .exp (.mt .append (.fld 0 "past" (.var 0)) [(.fld 0 "now" (.var 0))]),
  .setf 0 (.var 0) "now" (.tup [(.var 2), (.var 3), (.var 4), (.var 5)])]⟩
def e_House_happen : Ent := ⟨"happen", defArgs (topC 50 6), defBody (topC 50 6), defScope (topC 50 6), ["self", "events", "state", "known", "sums", "spent", "event", "person", "billed", "balance", "numbers"], ["self", "events"], f_House_happen, (some "House"), [], false, false⟩
theorem b_House_happen : BindsP e_House_happen := ⟨fun _ _ _ _ _ _ _ us hl => match us, hl with | [_, _], _ => rfl, fun h => absurd rfl h⟩
def f_House_last_sum : FD := ⟨2, 0, [
  .exp (.mth "happen" 0 i_House_happen (.var 0) [(.tup [(.var 1)])]),
  .ret (.ix (.ix (.fld 0 "now" (.var 0)) (.cst (.int 2))) (.neg (.cst (.int 1))))]⟩
def e_House_last_sum : Ent := ⟨"last_sum", defArgs (topC 50 7), defBody (topC 50 7), defScope (topC 50 7), ["self", "event"], ["self", "event"], f_House_last_sum, (some "House"), [], false, false⟩
theorem b_House_last_sum : BindsP e_House_last_sum := ⟨fun _ _ _ _ _ _ _ us hl => match us, hl with | [_, _], _ => rfl, fun h => absurd rfl h⟩
def f_House_read : FD := ⟨2, 0, [
  .ret (.mth "last_sum" 0 i_House_last_sum (.var 0) [(.tup [(.cst (.str "read")), (.var 1)])])]⟩
def e_House_read : Ent := ⟨"read", defArgs (topC 50 8), defBody (topC 50 8), defScope (topC 50 8), ["self", "use"], ["self", "use"], f_House_read, (some "House"), [], false, false⟩
theorem b_House_read : BindsP e_House_read := ⟨fun _ _ _ _ _ _ _ us hl => match us, hl with | [_, _], _ => rfl, fun h => absurd rfl h⟩
def f_House_guess : FD := ⟨2, 0, [
  .ret (.mth "last_sum" 0 i_House_last_sum (.var 0) [(.tup [(.cst (.str "guess")), (.var 1)])])]⟩
def e_House_guess : Ent := ⟨"guess", defArgs (topC 50 9), defBody (topC 50 9), defScope (topC 50 9), ["self", "face"], ["self", "face"], f_House_guess, (some "House"), [], false, false⟩
theorem b_House_guess : BindsP e_House_guess := ⟨fun _ _ _ _ _ _ _ us hl => match us, hl with | [_, _], _ => rfl, fun h => absurd rfl h⟩
def f_House_swap : FD := ⟨3, 0, [
  .ret (.mth "last_sum" 0 i_House_last_sum (.var 0) [(.tup [(.cst (.str "swap")), (.var 1), (.var 2)])])]⟩
def e_House_swap : Ent := ⟨"swap", defArgs (topC 50 10), defBody (topC 50 10), defScope (topC 50 10), ["self", "use", "face"], ["self", "use", "face"], f_House_swap, (some "House"), [], false, false⟩
theorem b_House_swap : BindsP e_House_swap := ⟨fun _ _ _ _ _ _ _ us hl => match us, hl with | [_, _, _], _ => rfl, fun h => absurd rfl h⟩
def f_House_move : FD := ⟨2, 0, [
  .ret (.mth "last_sum" 0 i_House_last_sum (.var 0) [(.tup [(.cst (.str "move")), (.var 1)])])]⟩
def e_House_move : Ent := ⟨"move", defArgs (topC 50 11), defBody (topC 50 11), defScope (topC 50 11), ["self", "use"], ["self", "use"], f_House_move, (some "House"), [], false, false⟩
theorem b_House_move : BindsP e_House_move := ⟨fun _ _ _ _ _ _ _ us hl => match us, hl with | [_, _], _ => rfl, fun h => absurd rfl h⟩
def f_House___iadd__ : FD := ⟨2, 0, [
  .exp (.mth "happen" 0 i_House_happen (.var 0) [(.var 1)]),
  .ret (.var 0)]⟩
def e_House___iadd__ : Ent := ⟨"__iadd__", defArgs (topC 50 12), defBody (topC 50 12), defScope (topC 50 12), ["self", "events"], ["self", "events"], f_House___iadd__, (some "House"), [], false, false⟩
theorem b_House___iadd__ : BindsP e_House___iadd__ := ⟨fun _ _ _ _ _ _ _ us hl => match us, hl with | [_, _], _ => rfl, fun h => absurd rfl h⟩
def f_House_undo : FD := ⟨1, 0, [
  .ife (.eqn (.fld 0 "past" (.var 0))) [.raise_ "NothingToUndo" [(.cst (.str "nothing to take back"))]] [],
  .setf 0 (.var 0) "now" (.mt .pop (.fld 0 "past" (.var 0)) [])]⟩
def e_House_undo : Ent := ⟨"undo", defArgs (topC 50 13), defBody (topC 50 13), defScope (topC 50 13), ["self"], ["self"], f_House_undo, (some "House"), [], false, false⟩
theorem b_House_undo : BindsP e_House_undo := ⟨fun _ _ _ _ _ _ _ us hl => match us, hl with | [_], _ => rfl, fun h => absurd rfl h⟩
def f_House___getitem__ : FD := ⟨2, 0, [
  .ife (.nt (.call i_is_integer [(.var 1), (.cst (.int 0)), (.bin .sub (.bi .len [(.ix (.fld 0 "now" (.var 0)) (.cst (.int 3)))]) (.cst (.int 1)))])) [.raise_ "InvalidNumber" [(.cst (.str "not the number of a person"))]] [],
  .ret (.ix (.ix (.fld 0 "now" (.var 0)) (.cst (.int 3))) (.var 1))]⟩
def e_House___getitem__ : Ent := ⟨"__getitem__", defArgs (topC 50 15), defBody (topC 50 15), defScope (topC 50 15), ["self", "person"], ["self", "person"], f_House___getitem__, (some "House"), [], false, false⟩
theorem b_House___getitem__ : BindsP e_House___getitem__ := ⟨fun _ _ _ _ _ _ _ us hl => match us, hl with | [_, _], _ => rfl, fun h => absurd rfl h⟩
def f_House___len__ : FD := ⟨1, 0, [
  .ret (.bi .len [(.ix (.fld 0 "now" (.var 0)) (.cst (.int 1)))])]⟩
def e_House___len__ : Ent := ⟨"__len__", defArgs (topC 50 16), defBody (topC 50 16), defScope (topC 50 16), ["self"], ["self"], f_House___len__, (some "House"), [], false, false⟩
theorem b_House___len__ : BindsP e_House___len__ := ⟨fun _ _ _ _ _ _ _ us hl => match us, hl with | [_], _ => rfl, fun h => absurd rfl h⟩
def f_House___eq__ : FD := ⟨2, 0, [
  .ret (.bo true [(.isc 0 (.var 1)), (.cmp .eq (.fld 0 "base" (.var 0)) (.fld 0 "base" (.var 1))), (.cmp .eq (.ow1 (.prop "history") 0 i_House_history (.var 0)) (.ow1 (.prop "history") 0 i_House_history (.var 1)))])]⟩
def e_House___eq__ : Ent := ⟨"__eq__", defArgs (topC 50 20), defBody (topC 50 20), defScope (topC 50 20), ["self", "other"], ["self", "other"], f_House___eq__, (some "House"), [], false, false⟩
theorem b_House___eq__ : BindsP e_House___eq__ := ⟨fun _ _ _ _ _ _ _ us hl => match us, hl with | [_, _], _ => rfl, fun h => absurd rfl h⟩
def f_need_rule : FD := ⟨1, 0, [
  .ife (.nt (.call i_is_among [(.glb j_RULES), (.var 0)])) [.raise_ "InvalidRule" [(.cst (.str "not a rule"))]] []]⟩
def e_need_rule : Ent := ⟨"need_rule", defArgs (top 75), defBody (top 75), defScope (top 75), ["value"], ["value"], f_need_rule, none, [], false, false⟩
theorem b_need_rule : BindsP e_need_rule := ⟨fun _ _ _ _ _ _ _ us hl => match us, hl with | [_], _ => rfl, fun h => absurd rfl h⟩
def l_body_lines_0_b : List S := [.ife (.cmp .eq (.ix (.var 2) (.cst (.int 0))) (.cst (.str "if"))) [.asg (.one 1) (.bin .add (.bin .add (.var 1) (.lst [(.bin .add (.cst (.str "if ")) (.mt .join (.cst (.str " ")) [(.ix (.var 2) (.cst (.int 1)))]))])) (.call i_body_lines [(.ix (.var 2) (.cst (.int 2)))])), .asg (.one 1) (.bin .add (.bin .add (.bin .add (.var 1) (.lst [(.cst (.str "else"))])) (.call i_body_lines [(.ix (.var 2) (.cst (.int 3)))])) (.lst [(.cst (.str "end"))]))] [.asg (.one 1) (.bin .add (.var 1) (.lst [(.mt .join (.cst (.str " ")) [(.var 2)])]))]]
def l_body_lines_0 : S := .forr (.one 2) .seq [(.var 0)] l_body_lines_0_b
def f_body_lines : FD := ⟨1, 2, [
  .asg (.one 1) (.lst []),
  l_body_lines_0,
  .ret (.var 1)]⟩
def e_body_lines : Ent := ⟨"body_lines", defArgs (top 81), defBody (top 81), defScope (top 81), ["body", "found", "statement"], ["body"], f_body_lines, none, [], false, false⟩
theorem b_body_lines : BindsP e_body_lines := ⟨fun _ _ _ _ _ _ _ us hl => match us, hl with | [_], _ => rfl, fun h => absurd rfl h⟩
def l_lines_of_0_b : List S := [.asg (.one 1) (.bin .add (.bin .add (.var 1) (.lst [(.var 2)])) (.call i_body_lines [(.var 3)]))]
def l_lines_of_0 : S := .forr (.many [2, 3]) .zip [(.glb j_KINDS), (.var 0)] l_lines_of_0_b
def f_lines_of : FD := ⟨1, 3, [
  .asg (.one 1) (.lst []),
  l_lines_of_0,
  .ret (.var 1)]⟩
def e_lines_of : Ent := ⟨"lines_of", defArgs (top 82), defBody (top 82), defScope (top 82), ["program", "found", "kind", "body"], ["program"], f_lines_of, none, [], false, false⟩
theorem b_lines_of : BindsP e_lines_of := ⟨fun _ _ _ _ _ _ _ us hl => match us, hl with | [_], _ => rfl, fun h => absurd rfl h⟩
def f_is_line : FD := ⟨1, 1, [
  .asg (.one 1) (.bi .tuple [(.mt .split (.var 0) [(.cst (.str " "))])]),
  .ife (.bo false [(.cmp .in_ (.var 0) (.glb j_KINDS)), (.cmp .in_ (.var 0) (.tup [(.cst (.str "else")), (.cst (.str "end"))]))]) [.ret (.cst (.bl true))] [],
  .ife (.cmp .eq (.ix (.var 1) (.cst (.int 0))) (.cst (.str "if"))) [.ret (.call i_is_test [(.sl (.var 1) (some (.cst (.int 1))) none), (.call i_numbers_in [(.cst (.str "swap"))])])] [],
  .ret (.call i_is_statement [(.var 1), (.call i_numbers_in [(.cst (.str "swap"))]), (.cst (.int 1))])]⟩
def e_is_line : Ent := ⟨"is_line", defArgs (top 83), defBody (top 83), defScope (top 83), ["line", "words"], ["line"], f_is_line, none, [], false, false⟩
theorem b_is_line : BindsP e_is_line := ⟨fun _ _ _ _ _ _ _ us hl => match us, hl with | [_], _ => rfl, fun h => absurd rfl h⟩
def l_body_in_0_b : List S := [.asg (.one 3) (.bi .tuple [(.mt .split (.ix (.var 0) (.var 1)) [(.cst (.str " "))])]), .ife (.cmp .eq (.ix (.var 3) (.cst (.int 0))) (.cst (.str "if"))) [.asg (.many [4, 1]) (.call i_body_in [(.var 0), (.bin .add (.var 1) (.cst (.int 1)))]), .asg (.many [5, 1]) (.call i_body_in [(.var 0), (.bin .add (.var 1) (.cst (.int 1)))]), .asg (.one 2) (.bin .add (.var 2) (.tup [(.tup [(.cst (.str "if")), (.sl (.var 3) (some (.cst (.int 1))) none), (.var 4), (.var 5)])]))] [.asg (.one 2) (.bin .add (.var 2) (.tup [(.var 3)]))], .asg (.one 1) (.bin .add (.var 1) (.cst (.int 1)))]
def l_body_in_0 : S := .whl (.bo true [(.cmp .lt (.var 1) (.bi .len [(.var 0)])), (.cmp .notin (.ix (.var 0) (.var 1)) (.glb j_KINDS)), (.cmp .notin (.ix (.var 0) (.var 1)) (.tup [(.cst (.str "else")), (.cst (.str "end"))]))]) l_body_in_0_b
def f_body_in : FD := ⟨2, 4, [
  .asg (.one 2) (.tup []),
  l_body_in_0,
  .ret (.tup [(.var 2), (.var 1)])]⟩
def e_body_in : Ent := ⟨"body_in", defArgs (top 84), defBody (top 84), defScope (top 84), ["lines", "at", "found", "words", "first", "second"], ["lines", "at"], f_body_in, none, [], false, false⟩
theorem b_body_in : BindsP e_body_in := ⟨fun _ _ _ _ _ _ _ us hl => match us, hl with | [_, _], _ => rfl, fun h => absurd rfl h⟩
def c_program_in_0 : E := .lc (.bin .add (.var 4) (.cst (.int 1))) (.many [4, 7]) .enum [(.var 1)] (some (.nt (.call i_is_line [(.var 7)])))
def l_program_in_0_b : List S := [.asg (.many [6, 4]) (.call i_body_in [(.var 1), (.bin .add (.var 4) (.cst (.int 1)))]), .asg (.one 3) (.bin .add (.var 3) (.tup [(.var 6)]))]
def l_program_in_0 : S := .forr (.one 5) .seq [(.glb j_KINDS)] l_program_in_0_b
def f_program_in : FD := ⟨1, 7, [
  .ife (.nt (.isi (.var 0) .str)) [.raiI "InvalidText" (.cst (.int 0))] [],
  .asg (.one 1) (.mt .split (.var 0) [(.cst (.str "\n"))]),
  .asg (.one 2) c_program_in_0,
  .ife (.cmp .ne (.var 2) (.lst [])) [.raiI "InvalidText" (.ix (.var 2) (.cst (.int 0)))] [],
  .asg (.many [3, 4]) (.tup [(.tup []), (.cst (.int 0))]),
  l_program_in_0,
  .ife (.bo false [(.nt (.call i_is_program [(.var 3)])), (.cmp .ne (.call i_lines_of [(.var 3)]) (.var 1))]) [.raiI "InvalidText" (.bin .add (.bi .len [(.var 1)]) (.cst (.int 1)))] [],
  .ret (.var 3)]⟩
def e_program_in : Ent := ⟨"program_in", defArgs (top 85), defBody (top 85), defScope (top 85), ["text", "lines", "bad", "bodies", "at", "kind", "body", "line"], ["text"], f_program_in, none, [], false, false⟩
theorem b_program_in : BindsP e_program_in := ⟨fun _ _ _ _ _ _ _ us hl => match us, hl with | [_], _ => rfl, fun h => absurd rfl h⟩
def f_with_pair : FD := ⟨2, 2, [
  .ife (.bo false [(.nt (.isi (.var 1) .tuple)), (.cmp .ne (.bi .len [(.var 1)]) (.cst (.int 2))), (.nt (.call i_is_among [(.glb j_FOUR_KINDS), (.ix (.var 1) (.cst (.int 0)))]))]) [.raise_ "InvalidStatement" [(.cst (.str "not a pair of a kind and a statement"))]] [],
  .asg (.one 2) (.gix "FOUR_KINDS" ["read", "guess", "swap", "move"] (.ix (.var 1) (.cst (.int 0)))),
  .asg (.one 3) (.bin .add (.bin .add (.sl (.var 0) none (some (.var 2))) (.tup [(.bin .add (.ix (.var 0) (.var 2)) (.tup [(.ix (.var 1) (.cst (.int 1)))]))])) (.sl (.var 0) (some (.bin .add (.var 2) (.cst (.int 1)))) none)),
  .ife (.nt (.call i_is_program [(.var 3)])) [.raise_ "InvalidStatement" [(.cst (.str "no program comes of it"))]] [],
  .ret (.var 3)]⟩
def e_with_pair : Ent := ⟨"with_pair", defArgs (top 88), defBody (top 88), defScope (top 88), ["program", "pair", "at", "found"], ["program", "pair"], f_with_pair, none, [], false, false⟩
theorem b_with_pair : BindsP e_with_pair := ⟨fun _ _ _ _ _ _ _ us hl => match us, hl with | [_, _], _ => rfl, fun h => absurd rfl h⟩
def f_less_number : FD := ⟨2, 0, [
  .exp (.call i_need_statement_number [(.var 0), (.var 1)]),
  .nev]⟩
def e_less_number : Ent := ⟨"less_number", defArgs (top 89), defBody (top 89), defScope (top 89), ["program", "number"], ["program", "number"], f_less_number, none, [], false, false⟩
theorem b_less_number : BindsP e_less_number := ⟨fun _ _ _ _ _ _ _ us hl => match us, hl with | [_, _], _ => rfl, fun h => absurd rfl h⟩
def f_Program___init__ : FD := ⟨5, 0, [
  .ife (.nt (.call i_is_program [(.tup [(.var 1), (.var 2), (.var 3), (.var 4)])])) [.raise_ "InvalidProgram" [(.cst (.str "not a program"))]] [],
  .setf 1 (.var 0) "base" (.tup [(.var 1), (.var 2), (.var 3), (.var 4)])]⟩
def e_Program___init__ : Ent := ⟨"__init__", defArgs (topC 90 1), defBody (topC 90 1), defScope (topC 90 1), ["self", "read", "guess", "swap", "move"], ["self", "read", "guess", "swap", "move"], f_Program___init__, (some "Program"), [.adr (He.dflAt ("Program", some "__init__") 0), .adr (He.dflAt ("Program", some "__init__") 1), .adr (He.dflAt ("Program", some "__init__") 2), .adr (He.dflAt ("Program", some "__init__") 3)], false, false⟩
theorem b_Program___init__ : BindsP e_Program___init__ := ⟨(fun h => nomatch h), fun _ _ _ _ _ _ _ _ us its hl hd => match us, hl, its, hd with | [_, _, _, _, _], _, [_, _, _, _], _ => ⟨_, rfl, rfl⟩⟩
def f_Program_told : FD := ⟨2, 4, [
  .asg (.many [2, 3, 4, 5]) (.call i_program_in [(.var 1)]),
  .ret (.mkv 0 "Program" 1 i_Program___init__ [(.var 2), (.var 3), (.var 4), (.var 5)])]⟩
def e_Program_told : Ent := ⟨"told", defArgs (topC 90 2), defBody (topC 90 2), defScope (topC 90 2), ["cls", "text", "read", "guess", "swap", "move"], ["cls", "text"], f_Program_told, (some "Program"), [], false, true⟩
theorem b_Program_told : BindsP e_Program_told := ⟨fun _ _ _ _ _ _ _ us hl => match us, hl with | [_, _], _ => rfl, fun h => absurd rfl h⟩
def f_Program_source : FD := ⟨1, 0, [
  .ret (.fld 1 "base" (.var 0))]⟩
def e_Program_source : Ent := ⟨"source", defArgs (topC 90 3), defBody (topC 90 3), defScope (topC 90 3), ["self"], ["self"], f_Program_source, (some "Program"), [], true, false⟩
theorem b_Program_source : BindsP e_Program_source := ⟨fun _ _ _ _ _ _ _ us hl => match us, hl with | [_], _ => rfl, fun h => absurd rfl h⟩
def f_Program___add__ : FD := ⟨2, 4, [
  .asg (.many [2, 3, 4, 5]) (.call i_with_pair [(.fld 1 "base" (.var 0)), (.var 1)]),
  .ret (.mk 1 i_Program___init__ [(.var 2), (.var 3), (.var 4), (.var 5)])]⟩
def e_Program___add__ : Ent := ⟨"__add__", defArgs (topC 90 4), defBody (topC 90 4), defScope (topC 90 4), ["self", "pair", "read", "guess", "swap", "move"], ["self", "pair"], f_Program___add__, (some "Program"), [], false, false⟩
theorem b_Program___add__ : BindsP e_Program___add__ := ⟨fun _ _ _ _ _ _ _ us hl => match us, hl with | [_, _], _ => rfl, fun h => absurd rfl h⟩
def f_Program___sub__ : FD := ⟨2, 4, [
  .asg (.many [2, 3, 4, 5]) (.call i_less_number [(.fld 1 "base" (.var 0)), (.var 1)]),
  .ret (.mk 1 i_Program___init__ [(.var 2), (.var 3), (.var 4), (.var 5)])]⟩
def e_Program___sub__ : Ent := ⟨"__sub__", defArgs (topC 90 5), defBody (topC 90 5), defScope (topC 90 5), ["self", "number", "read", "guess", "swap", "move"], ["self", "number"], f_Program___sub__, (some "Program"), [], false, false⟩
theorem b_Program___sub__ : BindsP e_Program___sub__ := ⟨fun _ _ _ _ _ _ _ us hl => match us, hl with | [_, _], _ => rfl, fun h => absurd rfl h⟩
def f_Program___call__ : FD := ⟨2, 0, [
  .ife (.nt (.call i_is_history [(.var 1)])) [.raise_ "InvalidHistory" [(.cst (.str "not a history"))]] [],
  .nev]⟩
def e_Program___call__ : Ent := ⟨"__call__", defArgs (topC 90 8), defBody (topC 90 8), defScope (topC 90 8), ["self", "history"], ["self", "history"], f_Program___call__, (some "Program"), [], false, false⟩
theorem b_Program___call__ : BindsP e_Program___call__ := ⟨fun _ _ _ _ _ _ _ us hl => match us, hl with | [_, _], _ => rfl, fun h => absurd rfl h⟩
def f_Program___getitem__ : FD := ⟨2, 0, [
  .exp (.call i_need_statement_number [(.fld 1 "base" (.var 0)), (.var 1)]),
  .nev]⟩
def e_Program___getitem__ : Ent := ⟨"__getitem__", defArgs (topC 90 9), defBody (topC 90 9), defScope (topC 90 9), ["self", "number"], ["self", "number"], f_Program___getitem__, (some "Program"), [], false, false⟩
theorem b_Program___getitem__ : BindsP e_Program___getitem__ := ⟨fun _ _ _ _ _ _ _ us hl => match us, hl with | [_, _], _ => rfl, fun h => absurd rfl h⟩
def f_Program_follows : FD := ⟨2, 0, [
  .exp (.call i_need_rule [(.var 1)]),
  .nev]⟩
def e_Program_follows : Ent := ⟨"follows", defArgs (topC 90 16), defBody (topC 90 16), defScope (topC 90 16), ["self", "rule"], ["self", "rule"], f_Program_follows, (some "Program"), [], false, false⟩
theorem b_Program_follows : BindsP e_Program_follows := ⟨fun _ _ _ _ _ _ _ us hl => match us, hl with | [_, _], _ => rfl, fun h => absurd rfl h⟩
def f_Program_like : FD := ⟨2, 0, [
  .ife (.nt (.isc 1 (.var 1))) [.raise_ "InvalidProgram" [(.cst (.str "not a program as a value"))]] [],
  .nev]⟩
def e_Program_like : Ent := ⟨"like", defArgs (topC 90 17), defBody (topC 90 17), defScope (topC 90 17), ["self", "other"], ["self", "other"], f_Program_like, (some "Program"), [], false, false⟩
theorem b_Program_like : BindsP e_Program_like := ⟨fun _ _ _ _ _ _ _ us hl => match us, hl with | [_, _], _ => rfl, fun h => absurd rfl h⟩
def f__law_source : FD := ⟨2, 1, [
  .asg (.one 2) (.cst (.int 0)),
  .ife (.cmp .lt (.var 1) (.bi .len [(.var 0)])) [.asg (.one 2) (.bi .abs [(.bi .int [(.ix (.var 0) (.var 1))])])] [],
  .ife (.cmp .lt (.var 2) (.bin .pow (.cst (.int 10)) (.cst (.int 18)))) [.ret (.newl [(.cst (.int 0)), (.bin .add (.cst (.int 1)) (.bin .mod (.bi .int [(.bin .add (.bin .mul (.var 2) (.cst (.int 7919))) (.bin .mul (.cst (.int 104729)) (.var 1)))]) (.cst (.int 2147483646))))])] [],
  .ret (.newl [(.var 2), (.bin .add (.cst (.int 1)) (.bin .mod (.bi .int [(.bin .add (.var 2) (.var 1))]) (.cst (.int 2147483646))))])]⟩
def e__law_source : Ent := ⟨"_law_source", defArgs (top 92), defBody (top 92), defScope (top 92), ["_law_script", "_law_k", "_law_cell"], ["_law_script", "_law_k"], f__law_source, none, [], false, false⟩
theorem b__law_source : BindsP e__law_source := ⟨fun _ _ _ _ _ _ _ us hl => match us, hl with | [_, _], _ => rfl, fun h => absurd rfl h⟩
def f__law_draw : FD := ⟨2, 1, [
  .ife (.cmp .gt (.ix (.var 0) (.cst (.int 0))) (.cst (.int 0))) [.asg (.one 2) (.bin .mod (.bi .int [(.ix (.var 0) (.cst (.int 0)))]) (.var 1)), .seti (.var 0) (.cst (.int 0)) (.bin .fdiv (.ix (.var 0) (.cst (.int 0))) (.var 1)), .ret (.var 2)] [],
  .seti (.var 0) (.cst (.int 1)) (.bin .mod (.bi .int [(.bin .mul (.ix (.var 0) (.cst (.int 1))) (.cst (.int 48271)))]) (.cst (.int 2147483647))),
  .ret (.bin .mod (.bi .int [(.bin .fdiv (.bin .mod (.bi .int [(.bin .mul (.ix (.var 0) (.cst (.int 1))) (.ix (.var 0) (.cst (.int 1))))]) (.cst (.int 2147483629))) (.cst (.int 64)))]) (.var 1))]⟩
def e__law_draw : Ent := ⟨"_law_draw", defArgs (top 93), defBody (top 93), defScope (top 93), ["_law_source_here", "_law_many", "_law_found"], ["_law_source_here", "_law_many"], f__law_draw, none, [], false, false⟩
theorem b__law_draw : BindsP e__law_draw := ⟨fun _ _ _ _ _ _ _ us hl => match us, hl with | [_, _], _ => rfl, fun h => absurd rfl h⟩
def f__law_of : FD := ⟨2, 0, [
  .ret (.ix (.var 1) (.call i__law_draw [(.var 0), (.bi .len [(.var 1)])]))]⟩
def e__law_of : Ent := ⟨"_law_of", defArgs (top 94), defBody (top 94), defScope (top 94), ["_law_source_here", "_law_items"], ["_law_source_here", "_law_items"], f__law_of, none, [], false, false⟩
theorem b__law_of : BindsP e__law_of := ⟨fun _ _ _ _ _ _ _ us hl => match us, hl with | [_, _], _ => rfl, fun h => absurd rfl h⟩
def x__law_error : List (Str × List HSt) := [("InvalidProgram", [.set 3 (.lst [.cst (.bl true), .cst (.bl false), .cst (.bl false)]), .set 3 (.bin .add (.var 3) (.lst [.cst (.bl false), .cst (.bl false), .cst (.bl false)])), .set 3 (.bin .add (.var 3) (.lst [.cst (.bl false), .cst (.bl false), .cst (.bl false)])), .set 4 (.cst (.str "program history number statement event face rule undo text value")), .cmp 1 5 6 (.mt .split (.var 4) [(.cst (.str " "))]) (.bin .add (.var 3) (.lst [.cst (.bl true)]))]), ("InvalidHistory", [.set 3 (.lst [.cst (.bl false), .cst (.bl true), .cst (.bl false)]), .set 3 (.bin .add (.var 3) (.lst [.cst (.bl false), .cst (.bl false), .cst (.bl false)])), .set 3 (.bin .add (.var 3) (.lst [.cst (.bl false), .cst (.bl false), .cst (.bl false)])), .set 4 (.cst (.str "program history number statement event face rule undo text value")), .cmp 1 5 6 (.mt .split (.var 4) [(.cst (.str " "))]) (.bin .add (.var 3) (.lst [.cst (.bl true)]))]), ("InvalidNumber", [.set 3 (.lst [.cst (.bl false), .cst (.bl false), .cst (.bl true)]), .set 3 (.bin .add (.var 3) (.lst [.cst (.bl false), .cst (.bl false), .cst (.bl false)])), .set 3 (.bin .add (.var 3) (.lst [.cst (.bl false), .cst (.bl false), .cst (.bl false)])), .set 4 (.cst (.str "program history number statement event face rule undo text value")), .cmp 1 5 6 (.mt .split (.var 4) [(.cst (.str " "))]) (.bin .add (.var 3) (.lst [.cst (.bl true)]))]), ("InvalidStatement", [.set 3 (.lst [.cst (.bl false), .cst (.bl false), .cst (.bl false)]), .set 3 (.bin .add (.var 3) (.lst [.cst (.bl true), .cst (.bl false), .cst (.bl false)])), .set 3 (.bin .add (.var 3) (.lst [.cst (.bl false), .cst (.bl false), .cst (.bl false)])), .set 4 (.cst (.str "program history number statement event face rule undo text value")), .cmp 1 5 6 (.mt .split (.var 4) [(.cst (.str " "))]) (.bin .add (.var 3) (.lst [.cst (.bl true)]))]), ("InvalidEvent", [.set 3 (.lst [.cst (.bl false), .cst (.bl false), .cst (.bl false)]), .set 3 (.bin .add (.var 3) (.lst [.cst (.bl false), .cst (.bl true), .cst (.bl false)])), .set 3 (.bin .add (.var 3) (.lst [.cst (.bl false), .cst (.bl false), .cst (.bl false)])), .set 4 (.cst (.str "program history number statement event face rule undo text value")), .cmp 1 5 6 (.mt .split (.var 4) [(.cst (.str " "))]) (.bin .add (.var 3) (.lst [.cst (.bl true)]))]), ("InvalidFace", [.set 3 (.lst [.cst (.bl false), .cst (.bl false), .cst (.bl false)]), .set 3 (.bin .add (.var 3) (.lst [.cst (.bl false), .cst (.bl false), .cst (.bl true)])), .set 3 (.bin .add (.var 3) (.lst [.cst (.bl false), .cst (.bl false), .cst (.bl false)])), .set 4 (.cst (.str "program history number statement event face rule undo text value")), .cmp 1 5 6 (.mt .split (.var 4) [(.cst (.str " "))]) (.bin .add (.var 3) (.lst [.cst (.bl true)]))]), ("InvalidRule", [.set 3 (.lst [.cst (.bl false), .cst (.bl false), .cst (.bl false)]), .set 3 (.bin .add (.var 3) (.lst [.cst (.bl false), .cst (.bl false), .cst (.bl false)])), .set 3 (.bin .add (.var 3) (.lst [.cst (.bl true), .cst (.bl false), .cst (.bl false)])), .set 4 (.cst (.str "program history number statement event face rule undo text value")), .cmp 1 5 6 (.mt .split (.var 4) [(.cst (.str " "))]) (.bin .add (.var 3) (.lst [.cst (.bl true)]))]), ("NothingToUndo", [.set 3 (.lst [.cst (.bl false), .cst (.bl false), .cst (.bl false)]), .set 3 (.bin .add (.var 3) (.lst [.cst (.bl false), .cst (.bl false), .cst (.bl false)])), .set 3 (.bin .add (.var 3) (.lst [.cst (.bl false), .cst (.bl true), .cst (.bl false)])), .set 4 (.cst (.str "program history number statement event face rule undo text value")), .cmp 1 5 6 (.mt .split (.var 4) [(.cst (.str " "))]) (.bin .add (.var 3) (.lst [.cst (.bl true)]))]), ("InvalidText", [.set 3 (.lst [.cst (.bl false), .cst (.bl false), .cst (.bl false)]), .set 3 (.bin .add (.var 3) (.lst [.cst (.bl false), .cst (.bl false), .cst (.bl false)])), .set 3 (.bin .add (.var 3) (.lst [.cst (.bl false), .cst (.bl false), .cst (.bl true)])), .set 4 (.cst (.str "program history number statement event face rule undo text value")), .cmp 1 5 6 (.mt .split (.var 4) [(.cst (.str " "))]) (.bin .add (.var 3) (.lst [.cst (.bl true)]))])]
def f__law_error : FD := ⟨1, 6, [
  .asg (.one 1) (.lst []),
  .tryx 2 [.exp (.cc 0 [])] x__law_error,
  .ret (.mt .join (.cst (.str " ")) [(.var 1)])]⟩
def e__law_error : Ent := ⟨"_law_error", defArgs (top 95), defBody (top 95), defScope (top 95), ["_law_call", "_law_found", "e", "_law_some", "_law_words", "_law_word", "_law_truth"], ["_law_call"], f__law_error, none, [], false, false⟩
theorem b__law_error : BindsP e__law_error := ⟨fun _ _ _ _ _ _ _ us hl => match us, hl with | [_], _ => rfl, fun h => absurd rfl h⟩
def f__law_more : FD := ⟨2, 0, [
  .aug .add 0 0 i_House___iadd__ (.var 1)]⟩
def e__law_more : Ent := ⟨"_law_more", defArgs (top 96), defBody (top 96), defScope (top 96), ["_law_house", "_law_events"], ["_law_house", "_law_events"], f__law_more, none, [], false, false⟩
theorem b__law_more : BindsP e__law_more := ⟨fun _ _ _ _ _ _ _ us hl => match us, hl with | [_, _], _ => rfl, fun h => absurd rfl h⟩
def f__law_calls : FD := ⟨3, 0, [
  .mks [⟨some "program", 0, [2]⟩, ⟨some "program", 1, [2]⟩, ⟨some "program", 2, [2]⟩, ⟨some "program", 3, [2]⟩, ⟨some "text", 4, [2]⟩, ⟨some "statement", 5, [0, 2]⟩, ⟨some "statement", 6, [0, 2]⟩, ⟨some "statement", 7, [0, 2]⟩, ⟨some "number", 8, [0, 2]⟩, ⟨some "number", 9, [0, 2]⟩, ⟨some "history", 10, [0, 2]⟩, ⟨some "rule", 11, [2, 0]⟩, ⟨some "program", 12, [2, 0]⟩, ⟨some "program", 13, [2]⟩, ⟨some "face", 14, [2, 0]⟩, ⟨some "event", 15, [2, 1]⟩, ⟨some "event", 16, [2, 1]⟩, ⟨some "event", 17, [2, 1]⟩, ⟨some "event", 18, [2, 1]⟩, ⟨some "event", 19, [2, 1]⟩, ⟨some "event", 20, [1, 2]⟩, ⟨some "event", 21, [1, 2]⟩, ⟨some "number", 22, [1, 2]⟩]]⟩
def e__law_calls : Ent := ⟨"_law_calls", defArgs (top 97), defBody (top 97), defScope (top 97), ["_law_value", "_law_house", "_law_bad"], ["_law_value", "_law_house", "_law_bad"], f__law_calls, none, [], false, false⟩
theorem b__law_calls : BindsP e__law_calls := ⟨fun _ _ _ _ _ _ _ us hl => match us, hl with | [_, _, _], _ => rfl, fun h => absurd rfl h⟩
def l_law_0_b : List S := [.ife (.bo false [(.cmp .ne (.call i__law_error [(.var 9)]) (.bin .add (.var 8) (.cst (.str " value")))), (.cmp .ne (.ow1 (.prop "source") 1 i_Program_source (.var 6)) (.var 1))]) [.ret (.cst (.bl false))] [], .ife (.bo false [(.cmp .ne (.ow1 .len 0 i_House___len__ (.var 7)) (.cst (.int 0))), (.cmp .ne (.ow1 (.prop "history") 0 i_House_history (.var 7)) (.tup [(.cst (.int 7)), (.tup [])]))]) [.ret (.cst (.bl false))] []]
def l_law_0 : S := .forr (.many [8, 9]) .seq [(.call i__law_calls [(.var 6), (.var 7), (.var 5)])] l_law_0_b
def l_law_1_b : List S := [.asg (.one 3) (.call i__law_source [(.var 0), (.var 2)]), .asg (.one 4) (.lst [(.cst .non), (.neg (.cst (.int 1))), (.cst (.bl true)), (.cst (.str "all")), (.lst [(.cst (.str "read")), (.cst (.int 5))]), (.tup [(.cst (.int 0))]), (.tup [(.cst (.str "read")), (.bin .pow (.cst (.int 10)) (.cst (.int 6)))]), (.cst (.str "read\nguess")), (.bin .pow (.cst (.int 10)) (.cst (.int 39)))]), .asg (.one 5) (.call i__law_of [(.var 3), (.bin .add (.var 4) (.lst [(.tup [(.cst .non), (.tup [])])]))]), .asg (.many [6, 7]) (.tup [(.mk 1 i_Program___init__ [(.ix (.var 1) (.cst (.int 0))), (.ix (.var 1) (.cst (.int 1))), (.ix (.var 1) (.cst (.int 2))), (.ix (.var 1) (.cst (.int 3)))]), (.mk 0 i_House___init__ [(.var 1), (.cst (.int 7))])]), l_law_0, .ife (.bo false [(.cmp .ne (.clz i__law_error 23 [7]) (.cst (.str "undo value"))), (.cmp .ne (.mth "read" 0 i_House_read (.var 7) [(.cst (.int 5))]) (.cst (.int 5))), (.cmp .ne (.ow2 .get 0 i_House___getitem__ (.var 7) (.cst (.int 0))) (.cst (.int 5)))]) [.ret (.cst (.bl false))] [], .ife (.bo false [(.cmp .ne (.clz i__law_error 24 [7]) (.cst (.str "number value"))), (.cmp .isnot (.mth "undo" 0 i_House_undo (.var 7) []) (.cst .non)), (.nt (.ow2 .eq 0 i_House___eq__ (.var 7) (.mk 0 i_House___init__ [(.var 1), (.cst (.int 7))])))]) [.ret (.cst (.bl false))] [], .asg (.one 10) (.mk 0 i_House___init__ [(.var 1), (.cst (.int 7))]), .aug .add 10 0 i_House___iadd__ (.bin .mul (.tup [(.tup [(.cst (.str "guess")), (.cst (.int 0))])]) (.cst (.int 40))), .ife (.bo false [(.cmp .ne (.clz i__law_error 25 [10]) (.cst (.str "event value"))), (.cmp .ne (.ow1 .len 0 i_House___len__ (.var 10)) (.cst (.int 40)))]) [.ret (.cst (.bl false))] [], .tryl 11 [.exp (.cmt "Program" "told" 1 i_Program_told [(.cst (.str "read\nguess\nbill a\nswap\nmove"))])] "InvalidText" (.ne 3 false)]
def l_law_1 : S := .forc (.one 2) .rng1 [(.bin .add (.cst (.int 1)) (.bi .min2 [(.bi .len [(.var 0)]), (.cst (.int 8))]))] l_law_1_b
def f_law : FD := ⟨1, 11, [
  .asg (.one 1) (.tup [(.tup [(.tup [(.cst (.str "bill")), (.cst (.str "face")), (.cst (.str "a"))])]), (.tup []), (.tup []), (.tup [(.tup [(.cst (.str "round"))])])]),
  l_law_1,
  .ret (.cst (.bl true))]⟩
def e_law : Ent := ⟨"law", defArgs (top 98), defBody (top 98), defScope (top 98), ["_law_script", "_law_base", "_law_k", "_law_source_here", "_law_odds", "_law_bad", "_law_value", "_law_house", "_law_word", "_law_call", "_law_full", "e"], ["_law_script"], f_law, none, [], false, false⟩
theorem b_law : BindsP e_law := ⟨fun _ _ _ _ _ _ _ us hl => match us, hl with | [_], _ => rfl, fun h => absurd rfl h⟩
theorem d_Program___init___2 : BindsD e_Program___init__ 2 := ⟨by simp [e_Program___init__], by decide, by decide, fun _ _ _ _ _ _ _ us its hl hd => match us, hl, its, hd with | [_, _], _, [_, _, _, _], _ => ⟨_, rfl, rfl⟩⟩
theorem d_Program___init___3 : BindsD e_Program___init__ 3 := ⟨by simp [e_Program___init__], by decide, by decide, fun _ _ _ _ _ _ _ us its hl hd => match us, hl, its, hd with | [_, _, _], _, [_, _, _, _], _ => ⟨_, rfl, rfl⟩⟩
theorem d_Program___init___4 : BindsD e_Program___init__ 4 := ⟨by simp [e_Program___init__], by decide, by decide, fun _ _ _ _ _ _ _ us its hl hd => match us, hl, its, hd with | [_, _, _, _], _, [_, _, _, _], _ => ⟨_, rfl, rfl⟩⟩
def tab : List Ent := [e_is_integer, e_is_face, e_is_among, e_numbers_in, e_are_two, e_is_test, e_is_statement, e_is_body, e_bodies_of, e_listed, e_all_statements, e_is_program, e_is_event, e_is_history, e_need_program, e_need_statement_number, e_first_number, e_with_item, e_body_done, e_begun, e_event_done, e_with_sum, e_House___init__, e_House_history, e_House_happen, e_House_last_sum, e_House_read, e_House_guess, e_House_swap, e_House_move, e_House___iadd__, e_House_undo, e_House___getitem__, e_House___len__, e_House___eq__, e_need_rule, e_body_lines, e_lines_of, e_is_line, e_body_in, e_program_in, e_with_pair, e_less_number, e_Program___init__, e_Program_told, e_Program_source, e_Program___add__, e_Program___sub__, e_Program___call__, e_Program___getitem__, e_Program_follows, e_Program_like, e__law_source, e__law_draw, e__law_of, e__law_error, e__law_more, e__law_calls, e_law]
theorem tab_b : BindsAll tab := ⟨b_is_integer, b_is_face, b_is_among, b_numbers_in, b_are_two, b_is_test, b_is_statement, b_is_body, b_bodies_of, b_listed, b_all_statements, b_is_program, b_is_event, b_is_history, b_need_program, b_need_statement_number, b_first_number, b_with_item, b_body_done, b_begun, b_event_done, b_with_sum, b_House___init__, b_House_history, b_House_happen, b_House_last_sum, b_House_read, b_House_guess, b_House_swap, b_House_move, b_House___iadd__, b_House_undo, b_House___getitem__, b_House___len__, b_House___eq__, b_need_rule, b_body_lines, b_lines_of, b_is_line, b_body_in, b_program_in, b_with_pair, b_less_number, b_Program___init__, b_Program_told, b_Program_source, b_Program___add__, b_Program___sub__, b_Program___call__, b_Program___getitem__, b_Program_follows, b_Program_like, b__law_source, b__law_draw, b__law_of, b__law_error, b__law_more, b__law_calls, b_law, True.intro⟩
def m_0 : LE := ⟨mkLam (top 97) 0 "_law_calls" ["_law_bad"], (.mkd "Program" 1 i_Program___init__ [(.var 0)] [.tup0, .tup0, .tup0])⟩
def m_1 : LE := ⟨mkLam (top 97) 1 "_law_calls" ["_law_bad"], (.mkd "Program" 1 i_Program___init__ [(.tup []), (.var 0)] [.tup0, .tup0])⟩
def m_2 : LE := ⟨mkLam (top 97) 2 "_law_calls" ["_law_bad"], (.mkd "Program" 1 i_Program___init__ [(.tup []), (.tup []), (.var 0)] [.tup0])⟩
def m_3 : LE := ⟨mkLam (top 97) 3 "_law_calls" ["_law_bad"], (.mk 1 i_Program___init__ [(.tup []), (.tup []), (.tup []), (.var 0)])⟩
def m_4 : LE := ⟨mkLam (top 97) 4 "_law_calls" ["_law_bad"], (.cmt "Program" "told" 1 i_Program_told [(.var 0)])⟩
def m_5 : LE := ⟨mkLam (top 97) 5 "_law_calls" ["_law_value", "_law_bad"], (.ow2 (.bin .add) 1 i_Program___add__ (.var 0) (.var 1))⟩
def m_6 : LE := ⟨mkLam (top 97) 6 "_law_calls" ["_law_value", "_law_bad"], (.ow2 (.bin .add) 1 i_Program___add__ (.var 0) (.tup [(.cst (.str "read")), (.var 1)]))⟩
def m_7 : LE := ⟨mkLam (top 97) 7 "_law_calls" ["_law_value", "_law_bad"], (.ow2 (.bin .add) 1 i_Program___add__ (.var 0) (.tup [(.var 1), (.tup [(.cst (.str "round"))])]))⟩
def m_8 : LE := ⟨mkLam (top 97) 8 "_law_calls" ["_law_value", "_law_bad"], (.ow2 (.bin .sub) 1 i_Program___sub__ (.var 0) (.var 1))⟩
def m_9 : LE := ⟨mkLam (top 97) 9 "_law_calls" ["_law_value", "_law_bad"], (.ow2 .get 1 i_Program___getitem__ (.var 0) (.var 1))⟩
def m_10 : LE := ⟨mkLam (top 97) 10 "_law_calls" ["_law_value", "_law_bad"], (.ow2 .call 1 i_Program___call__ (.var 0) (.var 1))⟩
def m_11 : LE := ⟨mkLam (top 97) 11 "_law_calls" ["_law_bad", "_law_value"], (.mth "follows" 1 i_Program_follows (.var 1) [(.var 0)])⟩
def m_12 : LE := ⟨mkLam (top 97) 12 "_law_calls" ["_law_bad", "_law_value"], (.mth "like" 1 i_Program_like (.var 1) [(.var 0)])⟩
def m_13 : LE := ⟨mkLam (top 97) 13 "_law_calls" ["_law_bad"], (.mk 0 i_House___init__ [(.var 0), (.var 0)])⟩
def m_14 : LE := ⟨mkLam (top 97) 14 "_law_calls" ["_law_bad", "_law_value"], (.mk 0 i_House___init__ [(.ow1 (.prop "source") 1 i_Program_source (.var 1)), (.var 0)])⟩
def m_15 : LE := ⟨mkLam (top 97) 15 "_law_calls" ["_law_bad", "_law_house"], (.mth "read" 0 i_House_read (.var 1) [(.var 0)])⟩
def m_16 : LE := ⟨mkLam (top 97) 16 "_law_calls" ["_law_bad", "_law_house"], (.mth "guess" 0 i_House_guess (.var 1) [(.var 0)])⟩
def m_17 : LE := ⟨mkLam (top 97) 17 "_law_calls" ["_law_bad", "_law_house"], (.mth "swap" 0 i_House_swap (.var 1) [(.var 0), (.cst (.int 5))])⟩
def m_18 : LE := ⟨mkLam (top 97) 18 "_law_calls" ["_law_bad", "_law_house"], (.mth "swap" 0 i_House_swap (.var 1) [(.cst (.int 5)), (.var 0)])⟩
def m_19 : LE := ⟨mkLam (top 97) 19 "_law_calls" ["_law_bad", "_law_house"], (.mth "move" 0 i_House_move (.var 1) [(.var 0)])⟩
def m_20 : LE := ⟨mkLam (top 97) 20 "_law_calls" ["_law_house", "_law_bad"], (.call i__law_more [(.var 0), (.var 1)])⟩
def m_21 : LE := ⟨mkLam (top 97) 21 "_law_calls" ["_law_house", "_law_bad"], (.call i__law_more [(.var 0), (.tup [(.tup [(.cst (.str "read")), (.cst (.int 5))]), (.var 1)])])⟩
def m_22 : LE := ⟨mkLam (top 97) 22 "_law_calls" ["_law_house", "_law_bad"], (.ow2 .get 0 i_House___getitem__ (.var 0) (.var 1))⟩
def m_23 : LE := ⟨mkLamN (defBody (top 98)) 0 "law" ["_law_house"], (.mth "undo" 0 i_House_undo (.var 0) [])⟩
def m_24 : LE := ⟨mkLamN (defBody (top 98)) 1 "law" ["_law_house"], (.ow2 .get 0 i_House___getitem__ (.var 0) (.cst (.int 1)))⟩
def m_25 : LE := ⟨mkLamN (defBody (top 98)) 2 "law" ["_law_full"], (.mth "move" 0 i_House_move (.var 0) [(.cst (.int 5))])⟩
def lams : List LE := [m_0, m_1, m_2, m_3, m_4, m_5, m_6, m_7, m_8, m_9, m_10, m_11, m_12, m_13, m_14, m_15, m_16, m_17, m_18, m_19, m_20, m_21, m_22, m_23, m_24, m_25]
def trs0 : List (PySem.Str × PySem.Str × PySem.Str × Bool) := [("InvalidEvent", "BillError", "InvalidEvent", true), ("InvalidEvent", "BillError", "InvalidFace", false), ("InvalidEvent", "BillError", "InvalidHistory", false), ("InvalidEvent", "BillError", "InvalidNumber", false), ("InvalidEvent", "BillError", "InvalidProgram", false), ("InvalidEvent", "BillError", "InvalidRule", false), ("InvalidEvent", "BillError", "InvalidStatement", false), ("InvalidEvent", "BillError", "InvalidText", false), ("InvalidEvent", "BillError", "NothingToUndo", false), ("InvalidFace", "BillError", "InvalidEvent", false), ("InvalidFace", "BillError", "InvalidFace", true), ("InvalidFace", "BillError", "InvalidHistory", false), ("InvalidFace", "BillError", "InvalidNumber", false), ("InvalidFace", "BillError", "InvalidProgram", false), ("InvalidFace", "BillError", "InvalidRule", false), ("InvalidFace", "BillError", "InvalidStatement", false), ("InvalidFace", "BillError", "InvalidText", false), ("InvalidFace", "BillError", "NothingToUndo", false), ("InvalidHistory", "BillError", "InvalidEvent", false), ("InvalidHistory", "BillError", "InvalidFace", false)]
def trs1 : List (PySem.Str × PySem.Str × PySem.Str × Bool) := [("InvalidHistory", "BillError", "InvalidHistory", true), ("InvalidHistory", "BillError", "InvalidNumber", false), ("InvalidHistory", "BillError", "InvalidProgram", false), ("InvalidHistory", "BillError", "InvalidRule", false), ("InvalidHistory", "BillError", "InvalidStatement", false), ("InvalidHistory", "BillError", "InvalidText", false), ("InvalidHistory", "BillError", "NothingToUndo", false), ("InvalidNumber", "BillError", "InvalidEvent", false), ("InvalidNumber", "BillError", "InvalidFace", false), ("InvalidNumber", "BillError", "InvalidHistory", false), ("InvalidNumber", "BillError", "InvalidNumber", true), ("InvalidNumber", "BillError", "InvalidProgram", false), ("InvalidNumber", "BillError", "InvalidRule", false), ("InvalidNumber", "BillError", "InvalidStatement", false), ("InvalidNumber", "BillError", "InvalidText", false), ("InvalidNumber", "BillError", "NothingToUndo", false), ("InvalidProgram", "BillError", "InvalidEvent", false), ("InvalidProgram", "BillError", "InvalidFace", false), ("InvalidProgram", "BillError", "InvalidHistory", false), ("InvalidProgram", "BillError", "InvalidNumber", false)]
def trs2 : List (PySem.Str × PySem.Str × PySem.Str × Bool) := [("InvalidProgram", "BillError", "InvalidProgram", true), ("InvalidProgram", "BillError", "InvalidRule", false), ("InvalidProgram", "BillError", "InvalidStatement", false), ("InvalidProgram", "BillError", "InvalidText", false), ("InvalidProgram", "BillError", "NothingToUndo", false), ("InvalidRule", "BillError", "InvalidEvent", false), ("InvalidRule", "BillError", "InvalidFace", false), ("InvalidRule", "BillError", "InvalidHistory", false), ("InvalidRule", "BillError", "InvalidNumber", false), ("InvalidRule", "BillError", "InvalidProgram", false), ("InvalidRule", "BillError", "InvalidRule", true), ("InvalidRule", "BillError", "InvalidStatement", false), ("InvalidRule", "BillError", "InvalidText", false), ("InvalidRule", "BillError", "NothingToUndo", false), ("InvalidStatement", "BillError", "InvalidEvent", false), ("InvalidStatement", "BillError", "InvalidFace", false), ("InvalidStatement", "BillError", "InvalidHistory", false), ("InvalidStatement", "BillError", "InvalidNumber", false), ("InvalidStatement", "BillError", "InvalidProgram", false), ("InvalidStatement", "BillError", "InvalidRule", false)]
def trs3 : List (PySem.Str × PySem.Str × PySem.Str × Bool) := [("InvalidStatement", "BillError", "InvalidStatement", true), ("InvalidStatement", "BillError", "InvalidText", false), ("InvalidStatement", "BillError", "NothingToUndo", false), ("InvalidText", "BillError", "InvalidEvent", false), ("InvalidText", "BillError", "InvalidFace", false), ("InvalidText", "BillError", "InvalidHistory", false), ("InvalidText", "BillError", "InvalidNumber", false), ("InvalidText", "BillError", "InvalidProgram", false), ("InvalidText", "BillError", "InvalidRule", false), ("InvalidText", "BillError", "InvalidStatement", false), ("InvalidText", "BillError", "InvalidText", true), ("InvalidText", "BillError", "NothingToUndo", false), ("NothingToUndo", "BillError", "InvalidEvent", false), ("NothingToUndo", "BillError", "InvalidFace", false), ("NothingToUndo", "BillError", "InvalidHistory", false), ("NothingToUndo", "BillError", "InvalidNumber", false), ("NothingToUndo", "BillError", "InvalidProgram", false), ("NothingToUndo", "BillError", "InvalidRule", false), ("NothingToUndo", "BillError", "InvalidStatement", false), ("NothingToUndo", "BillError", "InvalidText", false)]
def trs4 : List (PySem.Str × PySem.Str × PySem.Str × Bool) := [("NothingToUndo", "BillError", "NothingToUndo", true)]
def obs : List Ob := [.gix "KINDS" ["read", "guess", "swap", "move"], .gix "FLAGS" ["p", "q"], .cls 0, .noat 0 "base", .noat 0 "first", .noat 0 "now", .noat 0 "past", .meth "happen" 0 i_House_happen 2, .meth "last_sum" 0 i_House_last_sum 2, .isc "House" 0, .prop "history" 0 i_House_history, .gix "FOUR_KINDS" ["read", "guess", "swap", "move"], .cls 1, .noat 1 "base", .make "Program" 1 i_Program___init__ 5, .isc "Program" 1, .iop .add 0 i_House___iadd__, .maked "Program" 1 i_Program___init__ 2 [.tup0, .tup0, .tup0], .maked "Program" 1 i_Program___init__ 3 [.tup0, .tup0], .maked "Program" 1 i_Program___init__ 4 [.tup0], .cmet "Program" "told" 1 i_Program_told 2, .bin .add 1 i_Program___add__, .bin .sub 1 i_Program___sub__, .get 1 i_Program___getitem__, .call 1 i_Program___call__, .meth "follows" 1 i_Program_follows 2, .meth "like" 1 i_Program_like 2, .make "House" 0 i_House___init__ 3, .prop "source" 1 i_Program_source, .meth "read" 0 i_House_read 2, .meth "guess" 0 i_House_guess 2, .meth "swap" 0 i_House_swap 3, .meth "move" 0 i_House_move 2, .get 0 i_House___getitem__, .len 0 i_House___len__, .meth "undo" 0 i_House_undo 1, .eq 0 i_House___eq__]
def lw : Lw := ⟨tab, [("ROUND", (.int 1000000)), ("PLAIN", (.tup [(.str "face"), (.str "a"), (.str "b")])), ("FLAGS", (.tup [(.str "p"), (.str "q")])), ("REGISTERS", (.tup [(.str "a"), (.str "b")])), ("KINDS", (.tup [(.str "read"), (.str "guess"), (.str "swap"), (.str "move")])), ("MOST_DEEP", (.int 3)), ("MOST_STATEMENTS", (.int 20)), ("MOST_EVENTS", (.int 40)), ("RULES", (.tup [(.str "none"), (.str "whole"), (.str "ahead")])), ("FOUR_KINDS", (.tup [(.str "read"), (.str "guess"), (.str "swap"), (.str "move")]))], ["ValueError", "abs", "all", "bool", "dict", "enumerate", "int", "isinstance", "len", "list", "min", "range", "str", "sum", "tuple", "zip"], ["InvalidEvent", "InvalidFace", "InvalidHistory", "InvalidNumber", "InvalidProgram", "InvalidRule", "InvalidStatement", "NothingToUndo"], trs0 ++ trs1 ++ trs2 ++ trs3 ++ trs4, ["_law_calls", "law"], lams, [("InvalidEvent", true), ("InvalidFace", true), ("InvalidHistory", true), ("InvalidNumber", true), ("InvalidProgram", true), ("InvalidRule", true), ("InvalidStatement", true), ("InvalidText", true), ("NothingToUndo", true)], ["BillError", "InvalidEvent", "InvalidFace", "InvalidHistory", "InvalidNumber", "InvalidProgram", "InvalidRule", "InvalidStatement", "InvalidText", "NothingToUndo"], ["House", "Program"], obs, [("InvalidText", "InvalidText", true)], ["InvalidText"], "/claim/cut.py", [(i_Program___init__, 2), (i_Program___init__, 3), (i_Program___init__, 4)]⟩
theorem bds_ok : BdAll tab lw.bds := ⟨⟨e_Program___init__, rfl, d_Program___init___2⟩, ⟨e_Program___init__, rfl, d_Program___init___3⟩, ⟨e_Program___init__, rfl, d_Program___init___4⟩, True.intro⟩
def loose0 : List Str := ["_wall", "BillError", "InvalidProgram", "InvalidHistory", "InvalidNumber", "InvalidStatement", "InvalidEvent", "InvalidFace", "InvalidRule", "NothingToUndo", "InvalidText", "ROUND", "KINDS", "REGISTERS", "FLAGS", "PLAIN", "MOST_STATEMENTS", "MOST_DEEP", "MOST_EVENTS", "is_integer", "is_face", "is_among", "numbers_in", "are_two", "is_test", "is_statement", "is_body", "bodies_of", "listed", "all_statements"]
def loose1 : List Str := ["is_program", "is_event", "is_history", "need_program", "need_statement_number", "body_without", "less_one", "words_of", "first_number", "with_item", "body_done", "begun", "event_done", "rows_of", "billed_in", "with_sum", "House", "unit", "plus", "body_in_cell", "many_ranks", "places", "placed", "placed_form", "gathered", "run_kind", "choices", "laid", "gone_round", "core"]
def loose2 : List Str := ["due_form", "limited", "step", "first_standing", "RULES", "ORDER", "is_sound", "guess_step", "is_followed", "need_rule", "both_done", "first_parting", "is_alike", "body_lines", "lines_of", "is_line", "body_in", "program_in", "FOUR_KINDS", "with_pair", "less_number", "Program", "_law_source", "_law_draw", "_law_of", "_law_error", "_law_more", "_law_calls"]
def loose : List Str := loose0 ++ loose1 ++ loose2
abbrev lawAt : Nat := 98
instance glb : Glb := ⟨fun K => lw.T K, lw.lm.map (·.lam), fun K => lw.cln.map (He.ga K)⟩
theorem ents_ok : lw.ok = true := by kernel_rfl
end K25
namespace K25
open PySem PySem.Spec PyProof.Rows L2 Mi
abbrev RO : PySem.W.OpenLaw := PySem.Challenge.rw_facebilled_k25_errors_of_programs_and_ho
abbrev RR : PySem.W.OpenRow := PySem.W.OpenLaw.row RO
abbrev hk : PySem.W.Hook := hookM 5 lw.nms lw.fa lw.tab lw.mkn lw.ex
def ob (s : PySem.W.SharedT) : AlM := obsM 5 lw.nms lw.fa lw.tab lw.mkn lw.ex (HandSHeadRun.getT s)
theorem ob_eq (s : PySem.W.SharedT) : ob s = hk.obs s.abs := obsM_eq (HandSHeadRun.getT_eq s)
theorem map6 {α β γ δ : Type} {x : Option α} {f : α → β} {g : α → γ} {a : β} {b : γ} (p1 p2 p3 p4 : α → Bool) (h : α → δ) {e : δ} (h1 : x.map f = some a) (h2 : x.map g = some b) (q1 : x.map p1 = some true) (q2 : x.map p2 = some true) (q3 : x.map p3 = some true) (q4 : x.map p4 = some true) (h4 : x.map h = some e) :
    x.map (fun s => (f s, g s, ((p1 s && p2 s && p3 s && p4 s), h s))) = some (a, b, (true, e)) := by
  cases x with
  | none => cases h1
  | some s =>
    have e1 : f s = a := Option.some.inj h1
    have e2 : g s = b := Option.some.inj h2
    have e3 : p1 s = true := Option.some.inj q1
    have e4 : p2 s = true := Option.some.inj q2
    have e5 : p3 s = true := Option.some.inj q3
    have e6 : p4 s = true := Option.some.inj q4
    have e7 : h s = e := Option.some.inj h4
    show some (f s, g s, ((p1 s && p2 s && p3 s && p4 s), h s)) = some (a, b, (true, e))
    rw [e1, e2, e3, e4, e5, e6, e7]
    rfl
noncomputable abbrev top0 (w : World) (os : OsState) := HandSHeadRun.endF (HandSHeadRun.stepQ (HandSHeadRun.denQ HandSHeadRun.tabQ) RR.prog w) 16000 RR.prog w os
/-- one look at the end of the top -/
def lk {β : Type} (f : (Addr → Option Obj) → PySem.W.Frag → β) (s : PySem.W.SharedT) : β := frcN (addrN (HandSHeadRun.getT s) 5 lw.nms) fun as => frcK (He.frT (HandSHeadRun.getT s) as) (f (HandSHeadRun.getT s))
def l1 (s : PySem.W.SharedT) : Bool := lk (fun _ K => lw.fa.all fun f => f.ok K) s
def l2 (s : PySem.W.SharedT) : Bool := lk (fun _ K => lw.tab.all fun e => e.fit K) s
def l3 (s : PySem.W.SharedT) : Bool := lk (fun _ K => lw.ex K) s
def l4 (s : PySem.W.SharedT) : Bool := lk (fun g K => He.tabsB g (tfN lw.mkn) K) s
def l5 (s : PySem.W.SharedT) : List He.FnW := lk (fun _ K => lw.tab.map fun e => fnAt K (e.adr K)) s
theorem lk_eq {β : Type} (f : (Addr → Option Obj) → PySem.W.Frag → β) (s : PySem.W.SharedT) : lk f s = f (HandSHeadRun.getT s) (He.frT (HandSHeadRun.getT s) (addrN (HandSHeadRun.getT s) 5 lw.nms)) := by
  unfold lk
  rw [frcN_eq, frcK_eq]
theorem ob_split (s : PySem.W.SharedT) : ob s = ((l1 s && l2 s && l3 s && l4 s), l5 s) := by
  unfold ob obsM l1 l2 l3 l4 l5
  rw [frcN_eq, frcK_eq, lk_eq, lk_eq, lk_eq, lk_eq, lk_eq]
  rfl
theorem run1 (w : World) (os : OsState) : (top0 w os).map (fun s => HandSHeadRun.looksF RR.prog (PySem.W.boot_heap w.params) s.abs) = some true := by kernel_rfl
theorem run2 (w : World) (os : OsState) : (top0 w os).map (fun s => HandSHeadRun.seenQ (PySem.W.view RR.prog [lawAt]) loose (PySem.importedModules RR.prog.main.body) (fun s => PySem.W.xlAt (PySem.W.view RR.prog [lawAt]) [] s && PySem.W.recOk RR.toRowW.records s) s.abs) = some (PySem.W.openGood (PySem.W.view RR.prog [lawAt]) loose) := by kernel_rfl
theorem run3 (w : World) (os : OsState) : (top0 w os).map l1 = some true := by kernel_rfl
theorem run4 (w : World) (os : OsState) : (top0 w os).map l2 = some true := by kernel_rfl
theorem run5 (w : World) (os : OsState) : (top0 w os).map l3 = some true := by kernel_rfl
theorem run6 (w : World) (os : OsState) : (top0 w os).map l4 = some true := by kernel_rfl
theorem run7 (w : World) (os : OsState) : (top0 w os).map l5 = some (lw.tab.map Ent.val) := by kernel_rfl
theorem run (w : World) : HandSHeadRun.RunEq RR (PySem.W.view RR.prog [lawAt]) hk ob 16000 loose w := fun os => by
  have e : ob = fun s => ((l1 s && l2 s && l3 s && l4 s), l5 s) := funext ob_split
  rw [e]
  exact map6 l1 l2 l3 l4 l5 (run1 w os) (run2 w os) (run3 w os) (run4 w os) (run5 w os) (run6 w os) (run7 w os)
end K25
namespace K25
open Mi
abbrev G : Nat → Option D := lw.G
abbrev T : Nat → Option FD := tabT lw.tab lw.lm
abbrev cf (k : Nat) : Call := callF G T 200 k
theorem call_eq {j f : Nat} {fd : FD} {ds : List D} {m : MH} (hj : 1 ≤ j) (h : T f = some fd) (hl : ds.length = fd.np) : cf j f ds m = endF m.length (Mi.execs G (cf (j - 1)) 200 fd.body (ds.map some ++ List.replicate fd.nl none) m) := by
  obtain ⟨i, rfl⟩ : ∃ i, j = i + 1 := ⟨j - 1, by omega⟩
  show (match T f with
    | some fd => if ds.length = fd.np then endF m.length (Mi.execs G (cf i) 200 fd.body (ds.map some ++ List.replicate fd.nl none) m) else .stuck
    | none => .stuck) = _
  rw [h]
  dsimp only
  rw [if_pos hl]
  rfl
theorem small_of {i : Int} (h1 : 0 ≤ i) (h2 : i < 4294967296) : smallI i = true := by
  unfold smallI
  rw [decide_eq_true (by omega), decide_eq_true (by omega)]
  rfl
theorem mulI {m : MH} {x y : Int} (h : smallI x = true) : mulD m (.int x) (.int y) = some (.int (x * y)) := by
  show ((if smallI x || smallI y then some (x * y) else none).map D.int) = _
  rw [h]
  rfl
/-- a draw: the source's cell is written, nothing else -/
theorem draw_run {j c : Nat} (hj : 1 ≤ j) {n : Int} (h1 : 0 < n) (h2 : n ≤ 1000000) {m : MH} {x y : Int} (hc : m[c]? = some (.lst [.int x, .int y])) (y0 : 0 ≤ y) (y1 : y < 2147483648) :
    ∃ (r x' y' : Int), cf j i__law_draw [.ref c, .int n] m = .ok (.int r) (m.set c (.lst [.int x', .int y'])) ∧ 0 ≤ y' ∧ y' < 2147483648 ∧ 0 ≤ r ∧ r < n := by
  rw [call_eq (by omega) (fd := f__law_draw) rfl rfl]
  have hlt : c < m.length := (List.getElem?_eq_some_iff.mp hc).1
  have hn : (decide (n < 1073741824)) = true := decide_eq_true (by omega)
  by_cases hx : 0 < x
  · refine ⟨x % n, x / n, y, ?_, y0, y1, Int.emod_nonneg _ (by omega), Int.emod_lt_of_pos _ h1⟩
    simp [f__law_draw, Mi.execs, Mi.exec, Mi.eval, Mi.evals, Mi.evalB, Mi.evalP, Mi.evalC, Mi.test, Mi.R.at, Mi.R.bind, Mi.ofO, Mi.noX, Mi.cmpM, Mi.ltD, Mi.inM, Mi.isM, Mi.isN, Mi.isiD, Mi.ixD, Mi.ixS, Mi.atD, L2.atI, L2.ixN, Mi.truth, Mi.biD, Mi.one1, Mi.two2, Mi.toI, Mi.intD, Mi.binD, Mi.binI, Mi.addD, Mi.asL, Mi.setT, Mi.endF, Mi.cutM, Mi.lenD, Mi.absD, Mi.itemsD, Mi.seqM, Mi.wipeT, Mi.slD, Mi.tupD, Mi.lstD, Mi.allD, Mi.blsOf, Mi.lcRun, Mi.LIM, List.getElem?_cons_zero, List.getElem?_cons_succ, List.set_cons_zero, List.set_cons_succ, List.length_cons, List.length_nil, List.map_cons, List.map_nil, List.cons_append, List.nil_append, List.append_nil, List.replicate_zero, List.replicate_succ, List.zip_cons_cons, List.foldl_cons, List.foldl_nil, List.zip_nil_right, List.zip_nil_left, List.foldr_cons, List.foldr_nil, Option.map_some, Option.map_none, Option.bind_some, Option.bind_none, Mi.setiD, Mi.setL, hc, hx, h1, hn]
  · have hq : (decide (0 < x)) = false := decide_eq_false hx
    have s1 : smallI y = true := small_of y0 (by omega)
    have y2 : 0 ≤ y * 48271 % 2147483647 := Int.emod_nonneg _ (by decide)
    have y3 : y * 48271 % 2147483647 < 2147483647 := Int.emod_lt_of_pos _ (by decide)
    have s2 : smallI (y * 48271 % 2147483647) = true := small_of y2 (by omega)
    generalize hyy : y * 48271 % 2147483647 = yy at y2 y3 s2
    have hset : (m.set c (.lst [.int x, .int yy]))[c]? = some (.lst [.int x, .int yy]) := by rw [List.getElem?_set_self hlt]
    refine ⟨yy * yy % 2147483629 / 64 % n, x, yy, ?_, y2, by omega, Int.emod_nonneg _ (by omega), Int.emod_lt_of_pos _ h1⟩
    simp [f__law_draw, Mi.execs, Mi.exec, Mi.eval, Mi.evals, Mi.evalB, Mi.evalP, Mi.evalC, Mi.test, Mi.R.at, Mi.R.bind, Mi.ofO, Mi.noX, Mi.cmpM, Mi.ltD, Mi.inM, Mi.isM, Mi.isN, Mi.isiD, Mi.ixD, Mi.ixS, Mi.atD, L2.atI, L2.ixN, Mi.truth, Mi.biD, Mi.one1, Mi.two2, Mi.toI, Mi.intD, Mi.binD, Mi.binI, Mi.addD, Mi.asL, Mi.setT, Mi.endF, Mi.cutM, Mi.lenD, Mi.absD, Mi.itemsD, Mi.seqM, Mi.wipeT, Mi.slD, Mi.tupD, Mi.lstD, Mi.allD, Mi.blsOf, Mi.lcRun, Mi.LIM, List.getElem?_cons_zero, List.getElem?_cons_succ, List.set_cons_zero, List.set_cons_succ, List.length_cons, List.length_nil, List.map_cons, List.map_nil, List.cons_append, List.nil_append, List.append_nil, List.replicate_zero, List.replicate_succ, List.zip_cons_cons, List.foldl_cons, List.foldl_nil, List.zip_nil_right, List.zip_nil_left, List.foldr_cons, List.foldr_nil, Option.map_some, Option.map_none, Option.bind_some, Option.bind_none, Mi.setiD, Mi.setL, hc, hq, h1, hn, mulI s1, mulI s2, hyy, hset]
theorem of_run {j c : Nat} (hj : 2 ≤ j) {ds : List D} (h1 : 0 < ds.length) (h2 : ds.length ≤ 1000) {m : MH} {x y : Int} (hc : m[c]? = some (.lst [.int x, .int y])) (y0 : 0 ≤ y) (y1 : y < 2147483648) :
    ∃ (d : D) (x' y' : Int), cf j i__law_of [.ref c, .lst ds] m = .ok d (m.set c (.lst [.int x', .int y'])) ∧ 0 ≤ y' ∧ y' < 2147483648 ∧ d ∈ ds := by
  obtain ⟨r, x', y', e, z0, z1, r0, r1⟩ := draw_run (j := j - 1) (c := c) (by omega) (n := (ds.length : Int)) (by omega) (by omega) hc y0 y1
  have hat : atD ds r = some ds[r.toNat] := by
    unfold atD L2.atI L2.ixN
    rw [if_pos r0, if_pos (by omega)]
    exact List.getElem?_eq_getElem (by omega)
  refine ⟨ds[r.toNat], x', y', ?_, z0, z1, List.getElem_mem _⟩
  rw [call_eq (by omega) (fd := f__law_of) rfl rfl]
  generalize hz : ds[r.toNat] = z at hat
  simp [f__law_of, e, hat, Mi.execs, Mi.exec, Mi.eval, Mi.evals, Mi.R.at, Mi.R.bind, Mi.ofO, Mi.biD, Mi.one1, Mi.lenD, Mi.asL, Mi.ixD, Mi.ixS, Mi.endF, Mi.cutM, List.getElem?_cons_zero, List.getElem?_cons_succ, List.set_cons_zero, List.set_cons_succ, List.length_cons, List.length_nil, List.map_cons, List.map_nil, List.cons_append, List.nil_append, List.append_nil, List.replicate_zero, List.replicate_succ, List.zip_cons_cons, List.foldl_cons, List.foldl_nil, List.zip_nil_right, List.zip_nil_left, List.foldr_cons, List.foldr_nil, Option.map_some, Option.map_none, Option.bind_some, Option.bind_none]
theorem mulI2 {m : MH} {x y : Int} (h : smallI y = true) : mulD m (.int x) (.int y) = some (.int (x * y)) := by
  show ((if smallI x || smallI y then some (x * y) else none).map D.int) = _
  rw [h, Bool.or_true]
  rfl
theorem cut_new {m : MH} {c : Cell} : cutM m.length (.ref m.length) (m ++ [c]) = m ++ [c] := by
  unfold cutM
  have h : below m.length (.ref m.length) = false := decide_eq_false (Nat.lt_irrefl _)
  rw [h, Bool.false_and]
  split <;> rfl
theorem absI (x : Int) : absD (.int x) = some (.int (if x < 0 then -x else x)) := rfl
theorem source_run {j : Nat} (hj : 1 ≤ j) {m : MH} {ns : List Int} {k : Nat} (hk : k ≤ 20) {z : Int} (hz : z = k) : ∃ x y : Int, cf j i__law_source [.scr ns, .int z] m = .ok (.ref m.length) (m ++ [.lst [.int x, .int y]]) ∧ 0 ≤ y ∧ y < 2147483648 := by
  have cell : ∃ w : Int, 0 ≤ w ∧ ∀ (C : Call) (r : List S) , Mi.execs G C 200 (.asg (.one 2) (.cst (.int 0)) :: .ife (.cmp .lt (.var 1) (.bi .len [(.var 0)])) [.asg (.one 2) (.bi .abs [(.bi .int [(.ix (.var 0) (.var 1))])])] [] :: r) [some (.scr ns), some (.int z), none] m = Mi.execs G C 200 r [some (.scr ns), some (.int z), some (.int w)] m := by
    by_cases hl : z < (ns.length : Int)
    · have hq : decide (z < (ns.length : Int)) = true := decide_eq_true hl
      obtain ⟨v, hv⟩ : ∃ v, ns[k]? = some v := ⟨_, List.getElem?_eq_getElem (by omega)⟩
      have hix : ixD m (.scr ns) (.int z) = some (.int v) := by
        show atD (ns.map D.int) z = _
        unfold atD L2.atI L2.ixN
        rw [if_pos (by omega), if_pos (by rw [List.length_map]; omega)]
        show (ns.map D.int)[z.toNat]? = _
        rw [hz, Int.toNat_natCast, List.getElem?_map, hv]
        rfl
      refine ⟨if v < 0 then -v else v, by split <;> omega, fun C r => ?_⟩
      have ha := absI v
      generalize (if v < 0 then -v else v) = w at ha ⊢
      simp [hq, hix, ha, Mi.toI, Mi.lenD, Mi.execs, Mi.exec, Mi.eval, Mi.evals, Mi.evalB, Mi.evalP, Mi.test, Mi.truth, Mi.cmpM, Mi.ltD, Mi.R.at, Mi.R.bind, Mi.ofO, Mi.binD, Mi.biD, Mi.one1, Mi.two2, Mi.setT, List.getElem?_cons_zero, List.getElem?_cons_succ, List.set_cons_zero, List.set_cons_succ, List.length_cons, List.length_nil, List.map_cons, List.map_nil, List.cons_append, List.nil_append, List.append_nil, List.replicate_zero, List.replicate_succ, List.zip_cons_cons, List.foldl_cons, List.foldl_nil, List.zip_nil_right, List.zip_nil_left, List.foldr_cons, List.foldr_nil, Option.map_some, Option.map_none, Option.bind_some, Option.bind_none]
    · have hq : decide (z < (ns.length : Int)) = false := decide_eq_false hl
      exact ⟨0, by decide, fun C r => by simp [hq, Mi.lenD, Mi.execs, Mi.exec, Mi.eval, Mi.evals, Mi.evalB, Mi.evalP, Mi.test, Mi.truth, Mi.cmpM, Mi.ltD, Mi.R.at, Mi.R.bind, Mi.ofO, Mi.binD, Mi.biD, Mi.one1, Mi.two2, Mi.setT, List.getElem?_cons_zero, List.getElem?_cons_succ, List.set_cons_zero, List.set_cons_succ, List.length_cons, List.length_nil, List.map_cons, List.map_nil, List.cons_append, List.nil_append, List.append_nil, List.replicate_zero, List.replicate_succ, List.zip_cons_cons, List.foldl_cons, List.foldl_nil, List.zip_nil_right, List.zip_nil_left, List.foldr_cons, List.foldr_nil, Option.map_some, Option.map_none, Option.bind_some, Option.bind_none]⟩
  obtain ⟨w, hw0, hc⟩ := cell
  have e : f__law_source.body = .asg (.one 2) (.cst (.int 0)) :: .ife (.cmp .lt (.var 1) (.bi .len [(.var 0)])) [.asg (.one 2) (.bi .abs [(.bi .int [(.ix (.var 0) (.var 1))])])] [] :: f__law_source.body.drop 2 := rfl
  have hp : intD .pow (.int 10) (.int 18) = some (.int 1000000000000000000) := by rfl
  have hlt : (m ++ [Cell.lst [.int 0, .int 0]]).length = m.length + 1 := by simp
  by_cases hb : w < 1000000000000000000
  · have hq : decide (w < 1000000000000000000) = true := decide_eq_true hb
    have m1 : mulD m (.int w) (.int 7919) = some (.int (w * 7919)) := mulI2 (small_of (by decide) (by decide))
    have m2 : mulD m (.int 104729) (.int z) = some (.int (104729 * z)) := mulI (small_of (by decide) (by decide))
    refine ⟨0, 1 + (w * 7919 + 104729 * z) % 2147483646, ?_, by have := Int.emod_nonneg (w * 7919 + 104729 * z) (show (2147483646 : Int) ≠ 0 by decide); omega, by have := Int.emod_lt_of_pos (w * 7919 + 104729 * z) (show (0 : Int) < 2147483646 by decide); omega⟩
    rw [call_eq (by omega) (fd := f__law_source) rfl rfl, e]
    show endF m.length (Mi.execs G (cf (j - 1)) 200 _ [some (.scr ns), some (.int z), none] m) = _
    rw [hc]
    have a1 : addD m (.int (w * 7919)) (.int (104729 * z)) = some (.int (w * 7919 + 104729 * z)) := rfl
    have a2 : intD .mod (.int (w * 7919 + 104729 * z)) (.int 2147483646) = some (.int ((w * 7919 + 104729 * z) % 2147483646)) := rfl
    have a3 : addD m (.int 1) (.int ((w * 7919 + 104729 * z) % 2147483646)) = some (.int (1 + (w * 7919 + 104729 * z) % 2147483646)) := rfl
    generalize 1 + (w * 7919 + 104729 * z) % 2147483646 = y at a3 ⊢
    generalize (w * 7919 + 104729 * z) % 2147483646 = y1 at a2 a3
    generalize w * 7919 + 104729 * z = y2 at a1 a2
    have hcut := cut_new (m := m) (c := .lst [.int 0, .int y])
    simp [f__law_source, hp, hq, m1, m2, a1, a2, a3, hcut, Mi.toI, Mi.endF, Mi.execs, Mi.exec, Mi.eval, Mi.evals, Mi.evalB, Mi.evalP, Mi.test, Mi.truth, Mi.cmpM, Mi.ltD, Mi.R.at, Mi.R.bind, Mi.ofO, Mi.binD, Mi.biD, Mi.one1, Mi.two2, Mi.setT, List.getElem?_cons_zero, List.getElem?_cons_succ, List.set_cons_zero, List.set_cons_succ, List.length_cons, List.length_nil, List.map_cons, List.map_nil, List.cons_append, List.nil_append, List.append_nil, List.replicate_zero, List.replicate_succ, List.zip_cons_cons, List.foldl_cons, List.foldl_nil, List.zip_nil_right, List.zip_nil_left, List.foldr_cons, List.foldr_nil, Option.map_some, Option.map_none, Option.bind_some, Option.bind_none]
  · have hq : decide (w < 1000000000000000000) = false := decide_eq_false hb
    refine ⟨w, 1 + (w + z) % 2147483646, ?_, by have := Int.emod_nonneg (w + z) (show (2147483646 : Int) ≠ 0 by decide); omega, by have := Int.emod_lt_of_pos (w + z) (show (0 : Int) < 2147483646 by decide); omega⟩
    rw [call_eq (by omega) (fd := f__law_source) rfl rfl, e]
    show endF m.length (Mi.execs G (cf (j - 1)) 200 _ [some (.scr ns), some (.int z), none] m) = _
    rw [hc]
    have a1 : addD m (.int w) (.int z) = some (.int (w + z)) := rfl
    have a2 : intD .mod (.int (w + z)) (.int 2147483646) = some (.int ((w + z) % 2147483646)) := rfl
    have a3 : addD m (.int 1) (.int ((w + z) % 2147483646)) = some (.int (1 + (w + z) % 2147483646)) := rfl
    generalize 1 + (w + z) % 2147483646 = y at a3 ⊢
    generalize (w + z) % 2147483646 = y1 at a2 a3
    generalize w + z = y2 at a1 a2
    have hcut := cut_new (m := m) (c := .lst [.int w, .int y])
    simp [f__law_source, hp, hq, a1, a2, a3, hcut, Mi.toI, Mi.endF, Mi.execs, Mi.exec, Mi.eval, Mi.evals, Mi.evalB, Mi.evalP, Mi.test, Mi.truth, Mi.cmpM, Mi.ltD, Mi.R.at, Mi.R.bind, Mi.ofO, Mi.binD, Mi.biD, Mi.one1, Mi.two2, Mi.setT, List.getElem?_cons_zero, List.getElem?_cons_succ, List.set_cons_zero, List.set_cons_succ, List.length_cons, List.length_nil, List.map_cons, List.map_nil, List.cons_append, List.nil_append, List.append_nil, List.replicate_zero, List.replicate_succ, List.zip_cons_cons, List.foldl_cons, List.foldl_nil, List.zip_nil_right, List.zip_nil_left, List.foldr_cons, List.foldr_nil, Option.map_some, Option.map_none, Option.bind_some, Option.bind_none]
/-! ### one turn, by the kernel -/
def base : D := .tup [.tup [.tup [.str "bill", .str "face", .str "a"]], .tup [], .tup [], .tup [.tup [.str "round"]]]
def odd : Nat → D
  | 0 => .non
  | 1 => .int (-1)
  | 2 => .bl true
  | 3 => .str "all"
  | 4 => .lst [.str "read", .int 5]
  | 5 => .tup [.int 0]
  | 6 => .tup [.str "read", .int 1000000]
  | 7 => .str "read\nguess"
  | 8 => .int 1000000000000000000000000000000000000000
  | _ => .tup [.non, .tup []]
def O9 : List D := [odd 0, odd 1, odd 2, odd 3, odd 4, odd 5, odd 6, odd 7, odd 8]
def O10 : List D := [odd 0, odd 1, odd 2, odd 3, odd 4, odd 5, odd 6, odd 7, odd 8, odd 9]
def nxE (r : X) : Option Env := match r with
  | some (.nx e, _) => some e
  | _ => none
/-- the rest of a turn, the odd value drawn -/
def oneP (b : D) : Prop := ∀ (x y : Int) (a0 a2 a6 a7 a8 a9 a10 a11 : Option D), (nxE (Mi.execs G (cf 39) 200 (l_law_1_b.drop 3) [a0, some base, a2, some (.ref 0), some (.lst O9), some b, a6, a7, a8, a9, a10, a11] [.lst [.int x, .int y]])).map (fun e => (e.take 2, e.length)) = some ([a0, some base], 12)
end K25
namespace K25
open Mi
theorem one_0 : oneP (odd 0) := fun _ _ _ _ _ _ _ _ _ _ => by kernel_rfl
theorem one_1 : oneP (odd 1) := fun _ _ _ _ _ _ _ _ _ _ => by kernel_rfl
theorem one_2 : oneP (odd 2) := fun _ _ _ _ _ _ _ _ _ _ => by kernel_rfl
theorem one_3 : oneP (odd 3) := fun _ _ _ _ _ _ _ _ _ _ => by kernel_rfl
theorem one_4 : oneP (odd 4) := fun _ _ _ _ _ _ _ _ _ _ => by kernel_rfl
theorem one_5 : oneP (odd 5) := fun _ _ _ _ _ _ _ _ _ _ => by kernel_rfl
theorem one_6 : oneP (odd 6) := fun _ _ _ _ _ _ _ _ _ _ => by kernel_rfl
theorem one_7 : oneP (odd 7) := fun _ _ _ _ _ _ _ _ _ _ => by kernel_rfl
theorem one_8 : oneP (odd 8) := fun _ _ _ _ _ _ _ _ _ _ => by kernel_rfl
theorem one_9 : oneP (odd 9) := fun _ _ _ _ _ _ _ _ _ _ => by kernel_rfl
end K25
namespace K25
open Mi
theorem execs_nx {C : Call} {s : S} {ss : List S} {e e1 : Env} {m m1 : MH} {r : X} (h : Mi.exec G C 200 s e m = some (.nx e1, m1)) (h2 : Mi.execs G C 200 ss e1 m1 = r) : Mi.execs G C 200 (s :: ss) e m = r := by
  show (match Mi.exec G C 200 s e m with
    | some (.nx env, m) => Mi.execs G C 200 ss env m
    | r => r) = r
  rw [h]
  exact h2
theorem asg_nx {C : Call} {j : Nat} {t : E} {e : Env} {m m1 : MH} {d : D} (h : Mi.eval G C t e m = .ok d m1) : Mi.exec G C 200 (.asg (.one j) t) e m = some (.nx (e.set j (some d)), m1) := by
  show ((Mi.eval G C t e m).at e fun d m => match setT (.one j) d e with
    | some env' => some (.nx env', m)
    | none => none) = _
  rw [h]
  rfl
theorem call2 {C : Call} {f : Nat} {a b : E} {e : Env} {m : MH} {x y : D} (h1 : Mi.eval G C a e m = .ok x m) (h2 : Mi.eval G C b e m = .ok y m) : Mi.eval G C (.call f [a, b]) e m = C f [x, y] m := by
  show (((Mi.eval G C a e m).bind fun d m => ((Mi.eval G C b e m).bind fun d m => (R.ok [] m).bind fun ds m => .ok (d :: ds) m).bind fun ds m => .ok (d :: ds) m).bind fun ds m => C f ds m) = _
  rw [h1]
  show (((Mi.eval G C b e m).bind fun d m => (R.ok [] m).bind fun ds m => .ok (d :: ds) m).bind fun ds m => .ok (x :: ds) m).bind (fun ds m => C f ds m) = _
  rw [h2]
  rfl
theorem all1 {b : D} (h : b ∈ O10) : oneP b := by
  simp only [O10, List.mem_cons, List.not_mem_nil, or_false] at h
  rcases h with rfl | rfl | rfl | rfl | rfl | rfl | rfl | rfl | rfl | rfl
  · exact one_0
  · exact one_1
  · exact one_2
  · exact one_3
  · exact one_4
  · exact one_5
  · exact one_6
  · exact one_7
  · exact one_8
  · exact one_9
theorem nxE_some {r : X} {e : Env} (h : nxE r = some e) : ∃ m, r = some (.nx e, m) := by
  cases r with
  | none => cases h
  | some q =>
    obtain ⟨f, m⟩ := q
    cases f with
    | nx e2 =>
      cases h
      exact ⟨m, rfl⟩
    | _ => cases h
theorem turn {ns : List Int} {k : Nat} (hk : k ≤ 20) {z : Int} (hz : z = k) (a3 a4 a5 a6 a7 a8 a9 a10 a11 : Option D) :
    ∃ e m', Mi.execs G (cf 39) 200 l_law_1_b [some (.scr ns), some base, some (.int z), a3, a4, a5, a6, a7, a8, a9, a10, a11] [] = some (.nx e, m') ∧ e.take 2 = [some (.scr ns), some base] ∧ e.length = 12 := by
  obtain ⟨x, y, h1, y0, y1⟩ := source_run (j := 39) (by decide) (m := []) (ns := ns) hk hz
  obtain ⟨d1, x2, y2, h5, w0, w1, hm1⟩ := of_run (j := 39) (c := 0) (by decide) (ds := O10) (by decide) (by decide) (m := [.lst [.int x, .int y]]) rfl y0 y1
  have h6 := all1 hm1 x2 y2 (some (.scr ns)) (some (.int z)) a6 a7 a8 a9 a10 a11
  obtain ⟨e, h7, h8⟩ := Option.map_eq_some_iff.mp h6
  obtain ⟨m', h9⟩ := nxE_some h7
  injection h8 with g1 g2
  refine ⟨e, m', ?_, g1, g2⟩
  have hd : l_law_1_b = l_law_1_b.take 3 ++ l_law_1_b.drop 3 := (List.take_append_drop 3 _).symm
  rw [hd]
  refine execs_nx (asg_nx (call2 rfl rfl |>.trans h1)) ?_
  refine execs_nx (e1 := [some (.scr ns), some base, some (.int z), some (.ref 0), some (.lst O9), a5, a6, a7, a8, a9, a10, a11]) (m1 := [.lst [.int x, .int y]]) (by kernel_rfl) ?_
  refine execs_nx (asg_nx (call2 (x := .ref 0) (y := .lst O10) rfl (by kernel_rfl) |>.trans h5)) ?_
  exact h9
/-! ### the loop -/
theorem swX0 (e : Env) (m : MH) : ∃ e', swX 0 (some (.nx e, m)) = some (.nx e', []) ∧ (e' = e ∨ e' = swE 0 e) := by
  show ∃ e', (if m.length ≤ 0 then some (Fl.nx e, m) else if (m.take 0).all (belowC 0) then some (.nx (swE 0 e), m.take 0) else some (.nx e, m)) = _ ∧ _
  cases m with
  | nil => exact ⟨e, rfl, .inl rfl⟩
  | cons c m =>
    rw [if_neg (by simp)]
    exact ⟨swE 0 e, rfl, .inr rfl⟩
/-- an environment of the law -/
def Ev (ns : List Int) (e : Env) : Prop := e.take 2 = [some (.scr ns), some base] ∧ e.length = 12
theorem Ev.sw {ns : List Int} {e : Env} (h : Ev ns e) : Ev ns (swE 0 e) := by
  obtain ⟨h1, h2⟩ := h
  refine ⟨?_, by unfold swE; rw [List.length_map]; exact h2⟩
  unfold swE
  rw [← List.map_take, h1]
  rfl
theorem Ev.parts {ns : List Int} {e : Env} (h : Ev ns e) : ∃ a2 a3 a4 a5 a6 a7 a8 a9 a10 a11, e = [some (.scr ns), some base, a2, a3, a4, a5, a6, a7, a8, a9, a10, a11] := by
  obtain ⟨h1, h2⟩ := h
  match e, h1, h2 with
  | [b0, b1, a2, a3, a4, a5, a6, a7, a8, a9, a10, a11], h1, _ =>
    injection h1 with g0 h1
    injection h1 with g1 _
    subst g0 g1
    exact ⟨a2, a3, a4, a5, a6, a7, a8, a9, a10, a11, rfl⟩
theorem loop {ns : List Int} : ∀ (rest : List D), (∀ x ∈ rest, ∃ k : Nat, k ≤ 20 ∧ x = .int (k : Int)) → ∀ e : Env, Ev ns e →
    ∃ e', forRun (.one 2) (fun env m => swX m.length (Mi.execs G (cf 39) 200 l_law_1_b env m)) rest e [] = some (.nx e', []) ∧ Ev ns e'
  | [], _, e, he => ⟨e, rfl, he⟩
  | x :: rest, h, e, he => by
    obtain ⟨k, hk, rfl⟩ := h x List.mem_cons_self
    obtain ⟨a2, a3, a4, a5, a6, a7, a8, a9, a10, a11, rfl⟩ := he.parts
    obtain ⟨e1, m', h1, h2⟩ := turn (ns := ns) hk rfl a3 a4 a5 a6 a7 a8 a9 a10 a11
    obtain ⟨e2, h3, h4⟩ := swX0 e1 m'
    have he2 : Ev ns e2 := by
      rcases h4 with q | q
      · rw [q]
        exact h2
      · rw [q]
        exact Ev.sw h2
    obtain ⟨e3, h5, h6⟩ := loop rest (fun y hy => h y (List.mem_cons_of_mem _ hy)) e2 he2
    refine ⟨e3, ?_, h6⟩
    show (match swX (([] : MH).length) (Mi.execs G (cf 39) 200 l_law_1_b [some (.scr ns), some base, some (.int (k : Int)), a3, a4, a5, a6, a7, a8, a9, a10, a11] []) with
      | some (.nx e, m) => forRun (.one 2) (fun env m => swX m.length (Mi.execs G (cf 39) 200 l_law_1_b env m)) rest e m
      | some (.ct e, m) => forRun (.one 2) (fun env m => swX m.length (Mi.execs G (cf 39) 200 l_law_1_b env m)) rest e m
      | some (.bk e, m) => some (.nx e, m)
      | r => r) = _
    rw [h1]
    show (match swX 0 (some (.nx e1, m')) with
      | some (.nx e, m) => forRun (.one 2) (fun env m => swX m.length (Mi.execs G (cf 39) 200 l_law_1_b env m)) rest e m
      | some (.ct e, m) => forRun (.one 2) (fun env m => swX m.length (Mi.execs G (cf 39) 200 l_law_1_b env m)) rest e m
      | some (.bk e, m) => some (.nx e, m)
      | r => r) = _
    rw [h3]
    exact h5
theorem items {ns : List Int} (hl : ns.length ≤ 63) {env : Env} (h0 : env[0]? = some (some (.scr ns))) : ∃ xs, (Mi.evals G (cf 39) [(.bin .add (.cst (.int 1)) (.bi .min2 [(.bi .len [(.var 0)]), (.cst (.int 8))]))] env []) = .ok [.int (1 + (if (8 : Int) < (ns.length : Int) then 8 else (ns.length : Int)))] [] ∧
    itemsD [] .rng1 [.int (1 + (if (8 : Int) < (ns.length : Int) then 8 else (ns.length : Int)))] = some xs ∧ ∀ x ∈ xs, ∃ k : Nat, k ≤ 20 ∧ x = .int (k : Int) := by
  have hb : (if (8 : Int) < (ns.length : Int) then (8 : Int) else (ns.length : Int)) ≤ 8 ∧ 0 ≤ (if (8 : Int) < (ns.length : Int) then (8 : Int) else (ns.length : Int)) := by split <;> omega
  generalize hq : (if (8 : Int) < (ns.length : Int) then (8 : Int) else (ns.length : Int)) = q at hb ⊢
  refine ⟨rngD 0 (1 + q), ?_, ?_, fun x hx => ?_⟩
  · simp [Mi.evals, Mi.eval, h0, Mi.R.bind, Mi.ofO, Mi.biD, Mi.one1, Mi.two2, Mi.lenD, Mi.minD, Mi.binD, Mi.addD, hq]
  · show (if okR (1 + q) && decide (1 + q ≤ 16777216) then some (rngD 0 (1 + q)) else none) = _
    have : (okR (1 + q) && decide (1 + q ≤ 16777216)) = true := by
      unfold okR
      rw [decide_eq_true (by omega), decide_eq_true (by omega), decide_eq_true (by omega)]
      rfl
    rw [this]
    rfl
  · unfold rngD at hx
    obtain ⟨i, hi, rfl⟩ := List.mem_map.mp hx
    have hi := List.mem_range.mp hi
    exact ⟨i, by omega, by rw [Int.zero_add]⟩
theorem runs : Runs lw 200 40 i_law := fun ns hl => by
  obtain ⟨xs, h1, h2, h3⟩ := items (ns := ns) hl (env := [some (.scr ns), some base, none, none, none, none, none, none, none, none, none, none]) rfl
  obtain ⟨e', h4, _⟩ := loop (ns := ns) xs h3 [some (.scr ns), some base, none, none, none, none, none, none, none, none, none, none] ⟨rfl, rfl⟩
  refine ⟨[], ?_⟩
  show cf 40 i_law [.scr ns] [] = _
  rw [call_eq (by decide) (fd := f_law) rfl rfl]
  have g1 : Mi.exec G (cf 39) 200 (.asg (.one 1) (.tup [(.tup [(.tup [(.cst (.str "bill")), (.cst (.str "face")), (.cst (.str "a"))])]), (.tup []), (.tup []), (.tup [(.tup [(.cst (.str "round"))])])])) [some (.scr ns), none, none, none, none, none, none, none, none, none, none, none] [] = some (.nx [some (.scr ns), some base, none, none, none, none, none, none, none, none, none, none], []) := rfl
  have g2 : Mi.exec G (cf 39) 200 l_law_1 [some (.scr ns), some base, none, none, none, none, none, none, none, none, none, none] [] = some (.nx e', []) := by
    show (Mi.evals G (cf 39) [(.bin .add (.cst (.int 1)) (.bi .min2 [(.bi .len [(.var 0)]), (.cst (.int 8))]))] [some (.scr ns), some base, none, none, none, none, none, none, none, none, none, none] []).at [some (.scr ns), some base, none, none, none, none, none, none, none, none, none, none] (fun ds m => match itemsD m .rng1 ds with
      | some xs => forRun (.one 2) (fun env m => swX m.length (Mi.execs G (cf 39) 200 l_law_1_b env m)) xs [some (.scr ns), some base, none, none, none, none, none, none, none, none, none, none] m
      | none => none) = _
    rw [h1]
    show (match itemsD [] .rng1 [.int (1 + (if (8 : Int) < (ns.length : Int) then 8 else (ns.length : Int)))] with
      | some xs => forRun (.one 2) (fun env m => swX m.length (Mi.execs G (cf 39) 200 l_law_1_b env m)) xs [some (.scr ns), some base, none, none, none, none, none, none, none, none, none, none] []
      | none => none) = _
    rw [h2]
    exact h4
  show endF 0 (Mi.execs G (cf 39) 200 f_law.body [some (.scr ns), none, none, none, none, none, none, none, none, none, none, none] []) = _
  have g3 : Mi.execs G (cf 39) 200 f_law.body [some (.scr ns), none, none, none, none, none, none, none, none, none, none, none] [] = some (.rt (.bl true), []) := execs_nx g1 (execs_nx g2 rfl)
  rw [g3]
  rfl
end K25
namespace K25
open PySem PySem.Spec PyProof.Rows L2 Mi
theorem room : Room 82 callerA := ⟨rfl, by decide, by decide⟩
theorem lv40 {k : Nat} (h : k ≤ 40) : lv lw.I k ≤ 82 := by
  unfold lv
  split <;> omega
theorem flok : FileOk RO.prog lw.I := .inr ⟨by kernel_rfl, by kernel_rfl⟩
end K25
open PySem PySem.W PySem.Calls PyProof.Rows
theorem K25.holds_if {W k : Nat} (hk : k ≤ 40) (hr : Mi.Runs K25.lw W k K25.i_law) : PySem.Challenge.rw_facebilled_k25_errors_of_programs_and_ho.Holds := by
  w_on; o_law
  refine HandSHeadRun.head_any (r := OpenLaw.row PySem.Challenge.rw_facebilled_k25_errors_of_programs_and_ho) (q := view (OpenLaw.row PySem.Challenge.rw_facebilled_k25_errors_of_programs_and_ho).prog [K25.lawAt]) (H := K25.hk) (ob := K25.ob) (M := 16000) (loose := K25.loose) (d := HandSHeadRun.topDef (OpenLaw.row PySem.Challenge.rw_facebilled_k25_errors_of_programs_and_ho).prog K25.lawAt) (kwd := []) K25.ob_eq
    (by kernel_rfl) (fun s => by kernel_rfl) K25.run (by kernel_rfl) (by kernel_rfl) (by kernel_rfl) (by rfl) (by first | assumption | decide +kernel) (by decide +kernel) ⟨rfl, rfl, rfl, rfl, rfl, by decide +kernel⟩ ?hw ?hc
  case hw => w_witness2
  case hc => exact Mi.law_end (e := K25.e_law) (x := "_law_script") rfl (fun _ => rfl) (fun _ => rfl) rfl (by kernel_rfl) (Nat.le_trans hk (by decide)) hr rfl rfl rfl rfl K25.tab_b K25.bds_ok K25.ents_ok (by kernel_rfl) (K25.room.mono (K25.lv40 hk)) K25.flok

theorem PySem.Challenge.cw_facebilled_k25_errors_of_programs_and_ho_holds : PySem.Challenge.rw_facebilled_k25_errors_of_programs_and_ho.Holds := by
  exact K25.holds_if (by decide) K25.runs
