import PyProof.Rows.All
import PyProof.IsiBase
import PyProof.FactsAll.object
import HandS.IsInst
import HandS.ForMost
import HandS.Exc
import HandS.Lambda
import HandS.TupAny
import HandS.Wide
import HandS.Style
import HandS.WordsExc
import HandS.ExcOwn
import HandS.ExcIs
import HandS.HotCalls
import KE.GoesEnum
import HandS.Iter
import HandS.Zip
import HandS.SetFor
import HandS.Deep
import KE.KNest
import HandS.Conv
import PyProof.ReprLen
import PyProof.Rows.StrOr
import PyProof.ReprRoads
import KE.SortData
import HandS.TupMul
import HandS.Dict
import HandS.Defaults
import HandS.Set
import KE.DataMinMax
import HandS.Flow
import HandS.Text
import HandS.SetKeys
import KE.DataFind
import PyProof.CollectIter
import HandS.DictComp
import KE.LtData
import KE.KDictDisplayH
import KE.KTurns
import HandS.TupSets
import KE.KeyNested
import KE.GoesEnumKw
import HandS.SortKw
import KE.IntTextLaws
import PySem.Challenge.RW_waysranked_k50_fronts_told
set_option Elab.async false
set_option linter.all false
set_option autoImplicit false
set_option maxRecDepth 100000
set_option maxHeartbeats 4000000
namespace FL
open PySem PySem.Calls PyProof.Rows
open PySem.Sem (wp)
theorem fnC_slot : Slot "function" "__getattribute__" "object.__getattribute__" :=
  .of (owner := "object") (n := "__getattribute__") (by rw [typeLookup_type, builtinLookup_eq_fast]; kernel_rfl) (by decide +kernel) (by decide +kernel) (by decide +kernel)
    (by first | exact .inl (by decide +kernel) | exact .inr (by decide +kernel)) (by rw [isSubtype_type]; kernel_rfl)
theorem fnC_look : typeLookup (.type "function") "__class__" = pure (some (.builtin "object.__class__")) := by rw [typeLookup_type, builtinLookup_eq_fast]; kernel_rfl
theorem fnC_sub : isSubtype (.type "function") (.type (".".intercalate ("object.__class__".cutAt '.').dropLast)) = pure true := by
  rw [F.owner_object_class, isSubtype_type]; kernel_rfl
section
variable {prog : Program} {w : World} {A : Around} {E : Value → Shared → Prop} {h : Heap} {g : Array GenState} {d : Drawn} {t : Nat} {os : OsState} {a : Addr} {o : Obj}
theorem fnC_get {R : Result → Shared → Prop} (hx : h.get? a = some o) (hc : o.cls = .type "function") (hq : R (.ok (.ret (.type "function"))) ⟨h, g, d, t, os⟩) :
    codeAny (model prog w) A (.call (.builtin "getset_descriptor.__get__") ⟨[.builtin "object.__class__", .ref a, .type "function"], []⟩) R ⟨h, g, d, t, os⟩ := by
  have k1 : (⟨h, g, d, t, os⟩ : Shared).TypeIs (.ref a) "function" := ⟨_, hx, hc⟩
  have k2 : (⟨h, g, d, t, os⟩ : Shared).TypeIs (.builtin "object.__class__") "getset_descriptor" := F.typeOf_object_class
  have k3 := fnC_sub
  refine codeAny_call_builtin F.slot_gs_get.plain F.entry_gs_get (F.slot_gs_get.check _ _ _ _ _ _ _ _ k2 (F.args_gs_get _ _ _) ?_)
  repeat (any_goals (first | assumption | wp_step))
  refine ⟨Code.quiet_builtin _ (by decide +kernel), codeAny_builtin F.entry_object_class ?_⟩
  repeat (any_goals (first | assumption | wp_step))
theorem fnC_body {tk : Tok} {Q : Fin → Shared → Prop} (hx : h.get? a = some o) (hc : o.cls = .type "function") (hq : Q (.done (.ret (.type "function"))) ⟨h, g, d, t, os⟩) : wpAny (model prog w) A (Builtin.«object.__getattribute__» ⟨[.ref a, .str "__class__" tk], []⟩) Q E ⟨h, g, d, t, os⟩ := by
  have k1 : (⟨h, g, d, t, os⟩ : Shared).TypeIs (.ref a) "function" := ⟨_, hx, hc⟩
  have k2 : (⟨h, g, d, t, os⟩ : Shared).TypeIs (.builtin "object.__class__") "getset_descriptor" := F.typeOf_object_class
  have f4 := fnC_look
  have f5 := F.typeOf_object_class
  have f6 := F.slot_gs_get.lookup
  have f7 := F.slot_gs_set.lookup
  repeat (any_goals (first | assumption | wp_step))
  refine fnC_get hx hc ?_
  repeat (any_goals (first | assumption | wp_step))
theorem fnC_call {tk : Tok} {R : Result → Shared → Prop} (hx : h.get? a = some o) (hc : o.cls = .type "function") (hq : R (.ok (.ret (.type "function"))) ⟨h, g, d, t, os⟩) :
    codeAny (model prog w) A (.call (.builtin "object.__getattribute__") ⟨[.ref a, .str "__class__" tk], []⟩) R ⟨h, g, d, t, os⟩ :=
  codeAny_call_builtin fnC_slot.plain F.entry_object_getattribute (fnC_slot.check _ _ _ _ _ _ _ _ (show (⟨h, g, d, t, os⟩ : Shared).TypeIs (.ref a) "function" from ⟨_, hx, hc⟩) (F.args_object_getattribute_2 _ _) (fnC_body hx hc hq))
theorem fnC_by {tk : Tok} {Q : Value → Shared → Prop} (hx : h.get? a = some o) (hc : o.cls = .type "function") (hq : Q (.type "function") ⟨h, g, d, t, os⟩) : wpAny (model prog w) A (getAttrBy (.ref a) (.str "__class__" tk) false) Q E ⟨h, g, d, t, os⟩ := by
  have k1 : (⟨h, g, d, t, os⟩ : Shared).TypeIs (.ref a) "function" := ⟨_, hx, hc⟩
  have f2 := fnC_slot.lookup
  have f3 := fnC_slot.bind (.ref a)
  repeat (any_goals (first | assumption | wp_step))
  refine fnC_call hx hc ?_
  repeat (any_goals (first | assumption | wp_step))
theorem fnC_attr {Q : Option Value → Shared → Prop} (hx : h.get? a = some o) (hc : o.cls = .type "function") (hq : Q (some (.type "function")) ⟨h, g, d, t + 1, os⟩) : wpAny (model prog w) A (getAttr? (.ref a) "__class__") Q E ⟨h, g, d, t, os⟩ := by
  unfold getAttr? getAttrBy?
  repeat (any_goals (first | assumption | with_reducible apply fnC_by hx hc | wp_step))
end
theorem fnC_kit {K : PySem.W.Frag} {a : Addr} : PySem.W.KitX K (.ref a) (.type "function") (PySem.W.KitAt a "function") := PySem.W.kitx_of PySem.W.kitAt_ty (fun {_ _ _ _ _ s} p k => by
  obtain ⟨h, g, d, t, os⟩ := s
  obtain ⟨o, h1, h2⟩ := p
  exact fnC_attr h1 h2 k)
end FL
namespace FL
open PySem PySem.Spec PyProof.Rows L2
abbrev St := L2.St
/-- an exception: its class's name, its fields -/
structure Exn where
  cls : Str
  fs : List (Str × PyData)
/-- what an expression gives: data, or the n-th object of the def's own, an inner list of such an object, an exception that is held -/
inductive Sl where
  | val (d : PyData)
  | loc (n : Nat)
  | inn (n i : Nat)
  | exn (x : Exn)
abbrev Slot := Option Sl
/-- an object of the def's own -/
inductive Ob where
  | lst (ds : List PyData)
  | dic (kvs : List (Key × PyData))
  | lls (dss : List (List PyData))
  | dil (dss : List (List PyData)) (ks : List (Key × Nat))
  | dtp (ks : List (List Int))
  | dtq (kvs : List (List Int × PyData))
  | gone
abbrev Hs := List Ob
inductive Rz (α : Type) where
  | ok (a : α) (h : Hs)
  | err (x : Exn) (h : Hs)
  | bad
def Rz.bind {α β : Type} (r : Rz α) (f : α → Hs → Rz β) : Rz β := match r with
  | .ok a h => f a h
  | .err x h => .err x h
  | .bad => .bad
abbrev En := List Slot
abbrev Ev := En → Hs → Rz Sl
abbrev Tv := En → Hs → Rz Bool
abbrev Av := En → Hs → Rz (List Sl)
inductive Fl where
  | next (e : En) (h : Hs)
  | ret (s : Sl) (h : Hs)
  | brk (e : En) (h : Hs)
  | cont (e : En) (h : Hs)
  | err (x : Exn) (e : En) (h : Hs)
  | bad
abbrev Sv := En → Hs → Fl
abbrev Ms := Addr → Prop
def QL (K : PySem.W.Frag) (H : Hp) (M : Ms) (a : Addr) (xs : List V) : Prop :=
  (Rd H a (.lst xs) ∧ ¬ M a) ∨
    ∃ (its : Array Value) (n : Nat), K.lookup a = some { cls := .type "list", data := .seq its n } ∧ its.size ≤ sizeLine ∧ Vals xs its.toList
def QT (K : PySem.W.Frag) (H : Hp) (M : Ms) (a : Addr) (xs : List V) : Prop :=
  (Rd H a (.tup xs) ∧ ¬ M a) ∨
    ∃ (o : Obj) (its : Array Value) (n : Nat), K.lookup a = some o ∧ o.cls = .type "tuple" ∧ o.data = .seq its n ∧ its.size ≤ sizeLine ∧ Vals xs its.toList
theorem QL.sq {K : PySem.W.Frag} {H : Hp} {M : Ms} {a : Addr} {xs : List V} (h : QL K H M a xs) : SqL K H a xs := by
  rcases h with h | ⟨its, n, h1, h2, h3⟩
  · exact .inl h.1
  · exact .inr ⟨_, its, n, h1, rfl, rfl, rfl, h2, h3⟩
theorem QT.sq {K : PySem.W.Frag} {H : Hp} {M : Ms} {a : Addr} {xs : List V} (h : QT K H M a xs) : SqT K H a xs := by
  rcases h with h | h
  · exact .inl h.1
  · exact .inr h
/-- a dict of whole numbers -/
def dcV (ps : List (Int × Int)) : List (Key × V) := ps.map fun p => (Sum.inl p.1, V.int p.2)
def dcD (ps : List (Int × Int)) : List (PyData × PyData) := ps.map fun p => (.int p.1, .int p.2)
def lam3 : List Str := ["_law_one", "_law_two", "_law_far"]
/-- n times None -/
inductive Nones : Nat → List Expr → Prop
  | nil : Nones 0 []
  | cons {n : Nat} {k : _} {p : Pos} {es : List Expr} : Nones n es → Nones (n + 1) (.Constant .none k p :: es)
structure LamIs (x : Str) (n : Nat) (params : Arguments) (body : Expr) (scope : Scope) : Prop where
  bdy : ∃ (p1 q1 q2 q3 p2 : Pos) (es : List Expr), Nones n es ∧ body = .Call (.Name x p1) (.Name "_law_one" q1 :: .Name "_law_two" q2 :: .Name "_law_far" q3 :: es) [] p2
  sc : FnScope lam3 lam3 scope
  loc : ∀ y ∈ lam3, scope.names.lookup y = some .local
  glob : scope.names.lookup x = some .globalImplicit
  own : ∀ y ∈ scope.names, y.2 ≠ .free ∧ y.2 ≠ .cell
  dbg : (x == ("__debug__" : Str)) = false
  bind : ∀ (q : Str) (pm cv ctv u v w : Value), bindArgs (PySem.W.kla_fn "<lambda>" q params body scope [] pm cv ctv) ⟨[u, v, w], []⟩ = pure (lam3.zip [u, v, w])
def LamFn (a c : Addr) (q x : Str) (n : Nat) : HO := .ext fun h => ∃ (params : Arguments) (body : Expr) (scope : Scope) (pm ctv : Value), LamIs x n params body scope ∧ h.get? a = some (PySem.W.kla_obj "<lambda>" q params body scope [] pm c ctv)
/-- things that stay: a dict of whole numbers, a lambda -/
inductive Fz where
  | dic (ps : List (Int × Int))
  | lam (x : Str) (n : Nat)
def bigZ : Int := ((2 ^ 2000 : Nat) : Int)
def fnV (x : Str) (n : Nat) : List (PyData × PyData) := [(.str x, .int (n : Nat)), (.int bigZ, .none)]
@[simp] def isFn : List (PyData × PyData) → Bool
  | [(.str _, .int _), (.int _, .none)] => true
  | _ => false
theorem fnV_hid (x : Str) (n : Nat) : PyData.showable (.dict (fnV x n)) = false := by
  have h : PyData.showable (.int bigZ) = false := by decide +kernel
  simp [fnV, PyData.showable, PyData.showableKv] at h ⊢
  intro _
  exact h
def fzD : Fz → List (PyData × PyData)
  | .dic ps => dcD ps
  | .lam x n => fnV x n
def QD (H : Hp) (M : Ms) (a : Addr) : Fz → Prop
  | .dic ps => H a = some (.dK (dcV ps)) ∧ ¬ M a
  | .lam x n => ∃ (c : Addr) (q : Str), H a = some (LamFn a c q x n) ∧ ¬ M a ∧ H c = some (LamX.CodeO c q) ∧ ¬ M c
mutual
inductive Rp (K : PySem.W.Frag) (H : Hp) (M : Ms) : V → PyData → Prop
  | non : Rp K H M .non .none
  | bl (b : Bool) : Rp K H M (.bl b) (.bool b)
  | int (i : Int) : Rp K H M (.int i) (.int i)
  | str (x : Str) : Rp K H M (.str x) (.str x)
  | lst {a : Addr} {xs : List V} {ds : List PyData} : QL K H M a xs → RpAll K H M xs ds → Rp K H M (.ref a) (.list ds)
  | tup {a : Addr} {xs : List V} {ds : List PyData} : QT K H M a xs → RpAll K H M xs ds → Rp K H M (.ref a) (.tuple ds)
  | dct {a : Addr} (ps : Fz) {ds : List (PyData × PyData)} : QD H M a ps → ds = fzD ps → Rp K H M (.ref a) (.dict ds)
inductive RpAll (K : PySem.W.Frag) (H : Hp) (M : Ms) : List V → List PyData → Prop
  | nil : RpAll K H M [] []
  | cons {v : V} {vs : List V} {d : PyData} {ds : List PyData} : Rp K H M v d → RpAll K H M vs ds → RpAll K H M (v :: vs) (d :: ds)
end
section
variable {K : PySem.W.Frag} {H H' : Hp} {M M' : Ms}
mutual
theorem Rp.map (f : ∀ a xs, QL K H M a xs → QL K H' M' a xs) (g : ∀ a xs, QT K H M a xs → QT K H' M' a xs) (k : ∀ a ps, QD H M a ps → QD H' M' a ps) : ∀ (d : PyData) (v : V), Rp K H M v d → Rp K H' M' v d
  | .none, _, h => by cases h; exact .non
  | .bool b, _, h => by cases h; exact .bl b
  | .int i, _, h => by cases h; exact .int i
  | .str x, _, h => by cases h; exact .str x
  | .list ds, _, h => by
    cases h with
    | lst h1 h2 => exact .lst (f _ _ h1) (RpAll.map f g k ds _ h2)
  | .tuple ds, _, h => by
    cases h with
    | tup h1 h2 => exact .tup (g _ _ h1) (RpAll.map f g k ds _ h2)
  | .dict _, _, h => by
    cases h with
    | dct ps h1 h2 => exact .dct ps (k _ _ h1) h2
theorem RpAll.map (f : ∀ a xs, QL K H M a xs → QL K H' M' a xs) (g : ∀ a xs, QT K H M a xs → QT K H' M' a xs) (k : ∀ a ps, QD H M a ps → QD H' M' a ps) : ∀ (ds : List PyData) (vs : List V), RpAll K H M vs ds → RpAll K H' M' vs ds
  | [], _, h => by cases h; exact .nil
  | d :: ds, _, h => by
    cases h with
    | cons h1 h2 => exact .cons (Rp.map f g k d _ h1) (RpAll.map f g k ds _ h2)
end
mutual
theorem Rp.dp : ∀ (d : PyData) (v : V), d.hasDict = false → Rp K H M v d → Dp K H v d
  | .none, _, _, h => by cases h; exact .non
  | .bool b, _, _, h => by cases h; exact .bl b
  | .int i, _, _, h => by cases h; exact .int i
  | .str x, _, _, h => by cases h; exact .str x
  | .list ds, _, n, h => by
    cases h with
    | lst h1 h2 => exact .lst h1.sq (RpAll.dp ds _ (by simpa only [PyData.hasDict] using n) h2)
  | .tuple ds, _, n, h => by
    cases h with
    | tup h1 h2 => exact .tup h1.sq (RpAll.dp ds _ (by simpa only [PyData.hasDict] using n) h2)
  | .dict _, _, n, h => by simp [PyData.hasDict] at n
theorem RpAll.dp : ∀ (ds : List PyData) (vs : List V), PyData.hasDictAll ds = false → RpAll K H M vs ds → DpAll K H vs ds
  | [], _, _, h => by cases h; exact .nil
  | d :: ds, _, n, h => by
    cases h with
    | cons h1 h2 =>
      have n' : (PyData.hasDict d || PyData.hasDictAll ds) = false := by simpa only [PyData.hasDictAll] using n
      rw [Bool.or_eq_false_iff] at n'
      exact .cons (Rp.dp d _ n'.1 h1) (RpAll.dp ds _ n'.2 h2)
end
theorem RpAll.length : ∀ {vs : List V} {ds : List PyData}, RpAll K H M vs ds → vs.length = ds.length
  | _, _, .nil => rfl
  | _, _, .cons _ t => congrArg (· + 1) (RpAll.length t)
theorem RpAll.get : ∀ {vs : List V} {ds : List PyData} {i : Nat} {d : PyData}, RpAll K H M vs ds → ds[i]? = some d → ∃ v, vs[i]? = some v ∧ Rp K H M v d
  | _, _, _, _, .nil, e => by simp at e
  | _, _, 0, _, .cons r _, e => by simp at e; subst e; exact ⟨_, rfl, r⟩
  | _, _, i + 1, _, .cons _ t, e => by
    obtain ⟨v, h1, h2⟩ := RpAll.get (i := i) t (by simpa using e)
    exact ⟨v, by simpa using h1, h2⟩
theorem RpAll.set {v : V} {d : PyData} (r : Rp K H M v d) : ∀ {vs : List V} {ds : List PyData} (i : Nat), RpAll K H M vs ds → RpAll K H M (vs.set i v) (ds.set i d)
  | _, _, _, .nil => .nil
  | _, _, 0, .cons _ t => .cons r t
  | _, _, i + 1, .cons q t => .cons q (RpAll.set r i t)
theorem RpAll.append : ∀ {vs ws : List V} {ds es : List PyData}, RpAll K H M vs ds → RpAll K H M ws es → RpAll K H M (vs ++ ws) (ds ++ es)
  | _, _, _, _, .nil, s => s
  | _, _, _, _, .cons r t, s => .cons r (RpAll.append t s)
theorem RpAll.take : ∀ {vs : List V} {ds : List PyData} (n : Nat), RpAll K H M vs ds → RpAll K H M (vs.take n) (ds.take n)
  | _, _, 0, _ => .nil
  | _, _, _ + 1, .nil => .nil
  | _, _, n + 1, .cons r t => .cons r (RpAll.take n t)
theorem RpAll.drop : ∀ {vs : List V} {ds : List PyData} (n : Nat), RpAll K H M vs ds → RpAll K H M (vs.drop n) (ds.drop n)
  | _, _, 0, r => r
  | _, _, _ + 1, .nil => .nil
  | _, _, n + 1, .cons _ t => RpAll.drop n t
end
/-- it stays; a table may grow -/
def Kp (o o' : HO) : Prop := o' = o ∨ ∃ ps ps' : Array Value, o = .tbl ps ∧ o' = .tbl ps'
def NT (o : HO) : Prop := ∀ ps : Array Value, o ≠ .tbl ps
theorem Kp.trans {a b c : HO} (x : Kp a b) (y : Kp b c) : Kp a c := by
  rcases x with rfl | ⟨p, q, rfl, rfl⟩
  · exact y
  · rcases y with rfl | ⟨p', q', _, rfl⟩
    · exact .inr ⟨p, q, rfl, rfl⟩
    · exact .inr ⟨p, q', rfl, rfl⟩
theorem Kp.nt {a b : HO} (x : Kp a b) (n : NT a) : b = a := by
  rcases x with rfl | ⟨p, q, rfl, rfl⟩
  · rfl
  · exact absurd rfl (n p)
theorem nt_lst {xs : List V} : NT (.lst xs) := fun _ z => nomatch z
structure Stp (M : Ms) (H : Hp) (M' : Ms) (H' : Hp) : Prop where
  keepK : ∀ b o, H b = some o → ¬ M b → ∃ o', H' b = some o' ∧ Kp o o'
  new : ∀ b, M' b → M b ∨ H b = none
theorem Stp.keep {M M' : Ms} {H H' : Hp} (s : Stp M H M' H') {b : Addr} {o : HO} (e : H b = some o) (n : ¬ M b) (t : NT o) : H' b = some o := by
  obtain ⟨o', e', k⟩ := s.keepK b o e n
  rw [e', k.nt t]
theorem keepE {H H' : Hp} {M : Ms} (f : ∀ b o, H b = some o → ¬ M b → H' b = some o) : ∀ b o, H b = some o → ¬ M b → ∃ o', H' b = some o' ∧ Kp o o' := fun b o e n => ⟨o, f b o e n, .inl rfl⟩
theorem Stp.refl (M : Ms) (H : Hp) : Stp M H M H := ⟨keepE fun _ _ e _ => e, fun _ m => .inl m⟩
theorem Stp.trans {M M1 M2 : Ms} {H H1 H2 : Hp} (a : Stp M H M1 H1) (b : Stp M1 H1 M2 H2) : Stp M H M2 H2 where
  keepK := fun c o e n => by
    obtain ⟨o1, e1, k1⟩ := a.keepK c o e n
    obtain ⟨o2, e2, k2⟩ := b.keepK c o1 e1 fun m => by
      rcases a.new c m with q | q
      · exact n q
      · rw [e] at q; cases q
    exact ⟨o2, e2, k1.trans k2⟩
  new := fun c m => by
    rcases b.new c m with q | q
    · exact a.new c q
    · by_cases hm : M c
      · exact .inl hm
      · refine .inr ?_
        cases e : H c with
        | none => rfl
        | some o =>
          obtain ⟨o', e', _⟩ := a.keepK c o e hm
          rw [e'] at q; cases q
section
variable {K : PySem.W.Frag} {H H' : Hp} {M M' : Ms}
theorem Rd.stp {a : Addr} {u : HO} (s : Stp M H M' H') (h : Rd H a u) (n : ¬ M a) (t : NT u) : Rd H' a u ∧ ¬ M' a := by
  have key : ∀ o, H a = some o → NT o → H' a = some o ∧ ¬ M' a := fun o e t => ⟨s.keep e n t, fun m => by
    rcases s.new a m with q | q
    · exact n q
    · rw [e] at q; cases q⟩
  rcases h with h | ⟨o, h⟩
  · exact ⟨.inl (key _ h t).1, (key _ h t).2⟩
  · exact ⟨.inr ⟨o, (key _ h fun _ z => (nomatch z)).1⟩, (key _ h fun _ z => (nomatch z)).2⟩
theorem QL.stp {a : Addr} {xs : List V} (s : Stp M H M' H') (h : QL K H M a xs) : QL K H' M' a xs := by
  rcases h with h | h
  · exact .inl (Rd.stp s h.1 h.2 fun _ z => nomatch z)
  · exact .inr h
theorem QT.stp {a : Addr} {xs : List V} (s : Stp M H M' H') (h : QT K H M a xs) : QT K H' M' a xs := by
  rcases h with h | h
  · exact .inl (Rd.stp s h.1 h.2 fun _ z => nomatch z)
  · exact .inr h
theorem QD.stp {a : Addr} {ps : Fz} (s : Stp M H M' H') (h : QD H M a ps) : QD H' M' a ps := by
  have nw : ∀ {b : Addr} {o : HO}, H b = some o → ¬ M b → ¬ M' b := fun {b o} e n m => by
    rcases s.new b m with q | q
    · exact n q
    · rw [e] at q; cases q
  cases ps with
  | dic ps => exact ⟨s.keep h.1 h.2 (fun _ z => nomatch z), nw h.1 h.2⟩
  | lam x n =>
    obtain ⟨c, q, h1, h2, h3, h4⟩ := h
    exact ⟨c, q, s.keep h1 h2 (fun _ z => nomatch z), nw h1 h2, s.keep h3 h4 (fun _ z => nomatch z), nw h3 h4⟩
theorem Rp.stp {v : V} {d : PyData} (s : Stp M H M' H') (h : Rp K H M v d) : Rp K H' M' v d := Rp.map (fun _ _ => QL.stp s) (fun _ _ => QT.stp s) (fun _ _ => QD.stp s) d v h
theorem RpAll.stp {vs : List V} {ds : List PyData} (s : Stp M H M' H') (h : RpAll K H M vs ds) : RpAll K H' M' vs ds := RpAll.map (fun _ _ => QL.stp s) (fun _ _ => QT.stp s) (fun _ _ => QD.stp s) ds vs h
/-- fewer are barred -/
theorem QL.fewer {a : Addr} {xs : List V} (s : ∀ b, M' b → M b) (h : QL K H M a xs) : QL K H M' a xs := by
  rcases h with h | h
  · exact .inl ⟨h.1, fun m => h.2 (s _ m)⟩
  · exact .inr h
theorem QT.fewer {a : Addr} {xs : List V} (s : ∀ b, M' b → M b) (h : QT K H M a xs) : QT K H M' a xs := by
  rcases h with h | h
  · exact .inl ⟨h.1, fun m => h.2 (s _ m)⟩
  · exact .inr h
theorem QD.fewer {a : Addr} {ps : Fz} (s : ∀ b, M' b → M b) (h : QD H M a ps) : QD H M' a ps := by
  cases ps with
  | dic ps => exact ⟨h.1, fun m => h.2 (s _ m)⟩
  | lam x n =>
    obtain ⟨c, q, h1, h2, h3, h4⟩ := h
    exact ⟨c, q, h1, fun m => h2 (s _ m), h3, fun m => h4 (s _ m)⟩
theorem Rp.fewer {v : V} {d : PyData} (s : ∀ b, M' b → M b) (h : Rp K H M v d) : Rp K H M' v d := Rp.map (fun _ _ => QL.fewer s) (fun _ _ => QT.fewer s) (fun _ _ => QD.fewer s) d v h
theorem RpAll.fewer {vs : List V} {ds : List PyData} (s : ∀ b, M' b → M b) (h : RpAll K H M vs ds) : RpAll K H M' vs ds := RpAll.map (fun _ _ => QL.fewer s) (fun _ _ => QT.fewer s) (fun _ _ => QD.fewer s) ds vs h
/-- a new object that is not barred -/
theorem Stp.laid {p : Addr} {o : HO} (h : H p = none) : Stp M H M (upd H p o) :=
  ⟨keepE fun b u e _ => by rw [upd_ne (ne_of_none e h)]; exact e, fun _ m => .inl m⟩
end
/-- where a def began: its heap, the objects that it may change for its caller, those that it may not hand on -/
abbrev Fps := List (List Addr)
theorem pfx_rfl {α : Type} {l : List α} : l <+: l := ⟨[], List.append_nil _⟩
structure Fc where
  H0 : Hp
  W : Fps
  Bar : Ms
  T : List (Addr × Str)
  exc : Option (Addr × Exn)
/-- tables and code objects stay -/
def TabKp (H H' : Hp) : Prop := (∀ b ps, H b = some (.tbl ps) → H' b = some (.tbl ps)) ∧ ∀ b f, H b = some (.ext f) → H' b = some (.ext f)
theorem TabKp.tabs {T : List (Addr × Str)} {H H' : Hp} (k : TabKp H H') (t : LamX.Tabs T H) : LamX.Tabs T H' := fun p hp => by
  obtain ⟨ps, h1, h2, h3⟩ := t p hp
  refine ⟨ps, k.1 _ _ h1, h2, fun pos cv hc => ?_⟩
  obtain ⟨c, e1, e2⟩ := h3 pos cv hc
  exact ⟨c, e1, k.2 _ _ e2⟩
theorem TabKp.new {H : Hp} {p : Addr} {o : HO} (e : H p = none) : TabKp H (upd H p o) := ⟨fun b ps q => by rw [upd_ne (ne_of_none q e)]; exact q, fun b f q => by rw [upd_ne (ne_of_none q e)]; exact q⟩
/-- neither a table nor a code object -/
def NTE (o : HO) : Prop := (∀ ps : Array Value, o ≠ .tbl ps) ∧ ∀ f, o ≠ .ext f
theorem TabKp.put {H : Hp} {p : Addr} {o u : HO} (e : H p = some u) (n : NTE u) : TabKp H (upd H p o) := ⟨fun b ps q => by
  have : b ≠ p := fun z => by rw [z, e] at q; exact n.1 ps (Option.some.inj q)
  rw [upd_ne this]; exact q, fun b f q => by
  have : b ≠ p := fun z => by rw [z, e] at q; exact n.2 f (Option.some.inj q)
  rw [upd_ne this]; exact q⟩
theorem nte_lst {xs : List V} : NTE (.lst xs) := ⟨fun _ z => (nomatch z), fun _ z => (nomatch z)⟩
theorem nte_dT {xs : List (List Key × V)} : NTE (.dT xs) := ⟨fun _ z => (nomatch z), fun _ z => (nomatch z)⟩
theorem nte_dK {xs : List (Key × V)} : NTE (.dK xs) := ⟨fun _ z => (nomatch z), fun _ z => (nomatch z)⟩
def Mo (C : Fc) (ρ : Fps) : Ms := fun a => a ∈ ρ.flatten ∨ C.Bar a
/-- what stands at a footprint -/
def ObOk (K : PySem.W.Frag) (H : Hp) (M : Ms) (fp : List Addr) : Ob → Prop
  | .lst ds => ∃ a vs, fp = [a] ∧ H a = some (.lst vs) ∧ RpAll K H M vs ds
  | .dic kvs => ∃ a vs, fp = [a] ∧ H a = some (.dK vs) ∧ vs.map (·.1) = kvs.map (·.1) ∧ RpAll K H M (vs.map (·.2)) (kvs.map (·.2))
  | .lls dss => ∃ a bs, fp = a :: bs ∧ H a = some (.lst (bs.map V.ref)) ∧ bs.length = dss.length ∧ ∀ (i : Nat) (b : Addr) (ds : List PyData), bs[i]? = some b → dss[i]? = some ds → ∃ vs, H b = some (.lst vs) ∧ RpAll K H M vs ds
  | .dil dss ks => ∃ a bs, fp = a :: bs ∧ H a = some (.dK (ks.map fun r => (r.1, V.ref (bs.getD r.2 0)))) ∧ (∀ r ∈ ks, r.2 < bs.length) ∧ bs.length = dss.length ∧ ∀ (i : Nat) (b : Addr) (ds : List PyData), bs[i]? = some b → dss[i]? = some ds → ∃ vs, H b = some (.lst vs) ∧ RpAll K H M vs ds
  | .dtp ks => ∃ a, fp = [a] ∧ H a = some (.dT (ks.map fun k => (k.map Sum.inl, V.bl true)))
  | .dtq kvs => ∃ a vs, fp = [a] ∧ H a = some (.dT vs) ∧ vs.map (·.1) = kvs.map (fun p => p.1.map Sum.inl) ∧ RpAll K H M (vs.map (·.2)) (kvs.map (·.2))
  | .gone => fp = []
/-- tuples and what the layer does not know -/
def HdO : HO → Prop
  | .tup _ => True
  | .ext _ => True
  | _ => False
structure Hd where
  o : HO
  hd : HdO o
theorem Hd.ntbl (x : Hd) {ps : Array Value} : x.o ≠ .tbl ps := fun z => by
  have := x.hd
  rw [z] at this
  exact this
theorem Hd.nlst (x : Hd) {ps : List V} : x.o ≠ .lst ps := fun z => by
  have := x.hd
  rw [z] at this
  exact this
structure SimH (K : PySem.W.Frag) (C : Fc) (ρ : Fps) (h : Hs) (H : Hp) : Prop where
  len : ρ.length = h.length
  nd : ρ.flatten.Nodup
  trk : ∀ a ∈ ρ.flatten, ∃ o, H a = some o
  obj : ∀ (n : Nat) (fp : List Addr) (o : Ob), ρ[n]? = some fp → h[n]? = some o → ObOk K H (Mo C ρ) fp o
  frK : ∀ b o, C.H0 b = some o → b ∉ C.W.flatten → ∃ o', H b = some o' ∧ Kp o o'
  own : ∀ a ∈ ρ.flatten, a ∈ C.W.flatten ∨ C.H0 a = none
  bar : ∀ b, C.Bar b → b ∉ ρ.flatten ∧ ∃ o, H b = some o
  wtr : ∀ a ∈ C.W.flatten, ∃ o, H a = some o
  pre : ∀ (n : Nat) (fp : List Addr), C.W[n]? = some fp → ρ[n]? = some fp
  tab : LamX.Tabs C.T H
  bnt : ∀ b (xs : Hd), C.Bar b → H b ≠ some xs.o
theorem SimH.fr {K : PySem.W.Frag} {C : Fc} {ρ : Fps} {h : Hs} {H : Hp} (S : SimH K C ρ h H) {b : Addr} {o : HO} (e : C.H0 b = some o) (n : b ∉ C.W.flatten) (t : NT o) : H b = some o := by
  obtain ⟨o', e', k⟩ := S.frK b o e n
  rw [e', k.nt t]
def SlV (K : PySem.W.Frag) (C : Fc) (ρ : Fps) (H : Hp) (v : V) : Sl → Prop
  | .val d => Rp K H (Mo C ρ) v d
  | .loc n => ∃ (fp : List Addr) (a : Addr), ρ[n]? = some fp ∧ fp.head? = some a ∧ v = .ref a
  | .inn n i => ∃ (fp : List Addr) (a : Addr), ρ[n]? = some fp ∧ fp[i + 1]? = some a ∧ v = .ref a
  | .exn x => ∃ a : Addr, C.exc = some (a, x) ∧ v = .ref a
def SlVs (K : PySem.W.Frag) (C : Fc) (ρ : Fps) (H : Hp) : List V → List Sl → Prop := Paired (SlV K C ρ H)
structure EnvOk (K : PySem.W.Frag) (C : Fc) (ρ : Fps) (H : Hp) (env : En) (σ : St) : Prop where
  len : env.length = σ.length
  at_ : ∀ (i : Nat) (s : Sl), env[i]? = some (some s) → ∃ v, σ[i]? = some (some v) ∧ SlV K C ρ H v s
/-- a step within a def: roots stay -/
structure Ex (C : Fc) (ρ : Fps) (H : Hp) (ρ' : Fps) (H' : Hp) : Prop where
  stp : Stp (Mo C ρ) H (Mo C ρ') H'
  root : ∀ (n : Nat) (fp : List Addr), ρ[n]? = some fp → ∃ fp' : List Addr, ρ'[n]? = some fp' ∧ fp <+: fp'
section
variable {K : PySem.W.Frag} {C : Fc} {ρ ρ1 ρ2 : Fps} {H H1 H2 : Hp} {h h1 : Hs} {env : En} {σ : St} {v : V} {s : Sl}
theorem Ex.refl (C : Fc) (ρ : Fps) (H : Hp) : Ex C ρ H ρ H := ⟨Stp.refl _ _, fun _ fp e => ⟨fp, e, pfx_rfl⟩⟩
theorem Ex.trans (a : Ex C ρ H ρ1 H1) (b : Ex C ρ1 H1 ρ2 H2) : Ex C ρ H ρ2 H2 := ⟨a.stp.trans b.stp, fun n fp e => by
  obtain ⟨fp1, e1, q1⟩ := a.root n fp e
  obtain ⟨fp2, e2, q2⟩ := b.root n fp1 e1
  exact ⟨fp2, e2, q1.trans q2⟩⟩
theorem pfx_get {α : Type} {l m : List α} {i : Nat} {x : α} (p : l <+: m) (e : l[i]? = some x) : m[i]? = some x := by
  obtain ⟨r, rfl⟩ := p
  rw [List.getElem?_append_left (List.getElem?_eq_some_iff.mp e).1]
  exact e
theorem pfx_head {α : Type} {l m : List α} {x : α} (p : l <+: m) (e : l.head? = some x) : m.head? = some x := by
  rw [List.head?_eq_getElem?] at e ⊢
  exact pfx_get p e
theorem SlV.ex (x : Ex C ρ H ρ1 H1) (r : SlV K C ρ H v s) : SlV K C ρ1 H1 v s := by
  cases s with
  | val d => exact Rp.stp x.stp r
  | loc n =>
    obtain ⟨fp, a, e, q, rfl⟩ := r
    obtain ⟨fp', e', q'⟩ := x.root n fp e
    exact ⟨fp', a, e', pfx_head q' q, rfl⟩
  | inn n i =>
    obtain ⟨fp, a, e, q, rfl⟩ := r
    obtain ⟨fp', e', q'⟩ := x.root n fp e
    exact ⟨fp', a, e', pfx_get q' q, rfl⟩
  | exn x => exact r
theorem SlVs.ex (x : Ex C ρ H ρ1 H1) {vs : List V} {ss : List Sl} (r : SlVs K C ρ H vs ss) : SlVs K C ρ1 H1 vs ss := Paired.mapP r fun _ _ z => SlV.ex x z
theorem EnvOk.ex (x : Ex C ρ H ρ1 H1) (e : EnvOk K C ρ H env σ) : EnvOk K C ρ1 H1 env σ :=
  ⟨e.len, fun i s q => let ⟨v, a, b⟩ := e.at_ i s q; ⟨v, a, SlV.ex x b⟩⟩
theorem EnvOk.set (e : EnvOk K C ρ H env σ) (r : SlV K C ρ H v s) (i : Nat) : EnvOk K C ρ H (env.set i (some s)) (σ.set i (some v)) := by
  refine ⟨by rw [List.length_set, List.length_set]; exact e.len, fun j t q => ?_⟩
  by_cases hj : i = j
  · subst hj
    rw [List.getElem?_set] at q
    rw [if_pos rfl] at q
    split at q
    · rename_i hi
      have q' : s = t := by simpa using q
      subst q'
      refine ⟨v, ?_, r⟩
      rw [List.getElem?_set, if_pos rfl, if_pos (by rw [← e.len]; exact hi)]
    · cases q
  · rw [List.getElem?_set_ne hj] at q
    obtain ⟨u, a, b⟩ := e.at_ j t q
    exact ⟨u, by rw [List.getElem?_set_ne hj]; exact a, b⟩
theorem SimH.trkM (S : SimH K C ρ h H) {a : Addr} (m : Mo C ρ a) : ∃ o, H a = some o := by
  rcases m with m | m
  · exact S.trk a m
  · exact (S.bar a m).2
theorem SimH.fresh (S : SimH K C ρ h H) {p : Addr} (e : H p = none) : ¬ Mo C ρ p := fun m => by
  obtain ⟨o, q⟩ := S.trkM m
  rw [e] at q; cases q
theorem ObOk.stp {M M' : Ms} {fp : List Addr} {o : Ob} (s : Stp M H M' H1) (k : ∀ a ∈ fp, H1 a = H a) (x : ObOk K H M fp o) : ObOk K H1 M' fp o := by
  cases o with
  | lst ds =>
    obtain ⟨a, vs, rfl, e, r⟩ := x
    exact ⟨a, vs, rfl, (k a (by simp)).trans e, r.stp s⟩
  | dic kvs =>
    obtain ⟨a, vs, rfl, e, q, r⟩ := x
    exact ⟨a, vs, rfl, (k a (by simp)).trans e, q, r.stp s⟩
  | lls dss =>
    obtain ⟨a, bs, rfl, e, l, w⟩ := x
    refine ⟨a, bs, rfl, (k a (by simp)).trans e, l, fun i b ds e1 e2 => ?_⟩
    obtain ⟨vs, e3, r⟩ := w i b ds e1 e2
    exact ⟨vs, (k b (List.mem_cons_of_mem _ (List.mem_of_getElem? e1))).trans e3, r.stp s⟩
  | dil dss ks =>
    obtain ⟨a, bs, rfl, e, u, l, w⟩ := x
    refine ⟨a, bs, rfl, (k a (by simp)).trans e, u, l, fun i b ds e1 e2 => ?_⟩
    obtain ⟨vs, e3, r⟩ := w i b ds e1 e2
    exact ⟨vs, (k b (List.mem_cons_of_mem _ (List.mem_of_getElem? e1))).trans e3, r.stp s⟩
  | dtp ks =>
    obtain ⟨a, rfl, e⟩ := x
    exact ⟨a, rfl, (k a (by simp)).trans e⟩
  | dtq kvs =>
    obtain ⟨a, vs, rfl, e, q, r⟩ := x
    exact ⟨a, vs, rfl, (k a (by simp)).trans e, q, r.stp s⟩
  | gone => exact x
theorem ObOk.nte {M : Ms} {fp : List Addr} {o : Ob} (x : ObOk K H M fp o) {a : Addr} (m : a ∈ fp) : ∃ u, H a = some u ∧ NTE u := by
  cases o with
  | lst ds =>
    obtain ⟨b, vs, rfl, e, r⟩ := x
    have : a = b := by simpa using m
    subst this
    exact ⟨_, e, nte_lst⟩
  | dic kvs =>
    obtain ⟨b, vs, rfl, e, q, r⟩ := x
    have : a = b := by simpa using m
    subst this
    exact ⟨_, e, nte_dK⟩
  | lls dss =>
    obtain ⟨b, bs, rfl, e, l, w⟩ := x
    rcases List.mem_cons.mp m with z | z
    · subst z
      exact ⟨_, e, nte_lst⟩
    · obtain ⟨i, hi, ei⟩ := List.getElem_of_mem z
      have hl : i < dss.length := by omega
      obtain ⟨vs, e3, _⟩ := w i a dss[i] (by rw [← ei]; exact List.getElem?_eq_getElem hi) (List.getElem?_eq_getElem hl)
      exact ⟨_, e3, nte_lst⟩
  | dil dss ks =>
    obtain ⟨b, bs, rfl, e, _, l, w⟩ := x
    rcases List.mem_cons.mp m with z | z
    · subst z
      exact ⟨_, e, nte_dK⟩
    · obtain ⟨i, hi, ei⟩ := List.getElem_of_mem z
      have hl : i < dss.length := by omega
      obtain ⟨vs, e3, _⟩ := w i a dss[i] (by rw [← ei]; exact List.getElem?_eq_getElem hi) (List.getElem?_eq_getElem hl)
      exact ⟨_, e3, nte_lst⟩
  | dtp ks =>
    obtain ⟨b, rfl, e⟩ := x
    have : a = b := by simpa using m
    subst this
    exact ⟨_, e, nte_dT⟩
  | dtq kvs =>
    obtain ⟨b, vs, rfl, e, _⟩ := x
    have : a = b := by simpa using m
    subst this
    exact ⟨_, e, nte_dT⟩
  | gone =>
    rw [show fp = [] from x] at m
    cases m
/-- a new object that nobody may change: data -/
theorem SimH.laid (S : SimH K C ρ h H) {p : Addr} {o : HO} (e : H p = none) : SimH K C ρ h (upd H p o) where
  len := S.len
  nd := S.nd
  trk := fun a m => by
    obtain ⟨u, q⟩ := S.trk a m
    exact ⟨u, by rw [upd_ne (ne_of_none q e)]; exact q⟩
  obj := fun n fp ob e1 e2 => ObOk.stp (Stp.laid e) (fun a m => by
    obtain ⟨u, q⟩ := S.trk a (List.mem_flatten.mpr ⟨fp, List.mem_of_getElem? e1, m⟩)
    exact upd_ne (ne_of_none q e)) (S.obj n fp ob e1 e2)
  frK := fun b u q n => by
    obtain ⟨u', q', k⟩ := S.frK b u q n
    exact ⟨u', by rw [upd_ne (ne_of_none q' e)]; exact q', k⟩
  own := S.own
  bar := fun b m => by
    obtain ⟨n, u, q⟩ := S.bar b m
    exact ⟨n, u, by rw [upd_ne (ne_of_none q e)]; exact q⟩
  wtr := fun a m => by
    obtain ⟨u, q⟩ := S.wtr a m
    exact ⟨u, by rw [upd_ne (ne_of_none q e)]; exact q⟩
  pre := S.pre
  tab := (TabKp.new e).tabs S.tab
  bnt := fun b xs m z => by
    obtain ⟨_, u, q⟩ := S.bar b m
    rw [upd_ne (ne_of_none q e)] at z
    exact S.bnt b xs m z
theorem Ex.laid (S : SimH K C ρ h H) {p : Addr} {o : HO} (e : H p = none) : Ex C ρ H ρ (upd H p o) := ⟨Stp.laid e, fun _ fp q => ⟨fp, q, pfx_rfl⟩⟩
/-- a tuple laid -/
theorem Rp.newTup (S : SimH K C ρ h H) {p : Addr} {vs : List V} {ds : List PyData} (e : H p = none) (r : RpAll K H (Mo C ρ) vs ds) : Rp K (upd H p (.tup vs)) (Mo C ρ) (.ref p) (.tuple ds) :=
  .tup (.inl ⟨.inl upd_same, S.fresh e⟩) (r.stp (Stp.laid e))
theorem Rp.newLst (S : SimH K C ρ h H) {p : Addr} {vs : List V} {ds : List PyData} (e : H p = none) (r : RpAll K H (Mo C ρ) vs ds) : Rp K (upd H p (.lst vs)) (Mo C ρ) (.ref p) (.list ds) :=
  .lst (.inl ⟨.inl upd_same, S.fresh e⟩) (r.stp (Stp.laid e))
end
theorem flatten_snoc (ρ : Fps) (fp : List Addr) : (ρ ++ [fp]).flatten = ρ.flatten ++ fp := by simp
section
variable {K : PySem.W.Frag} {C : Fc} {ρ : Fps} {H : Hp} {h : Hs}
theorem Mo.snoc {a b : Addr} (m : Mo C (ρ ++ [[a]]) b) : Mo C ρ b ∨ b = a := by
  rcases m with m | m
  · rw [flatten_snoc] at m
    rcases List.mem_append.mp m with m | m
    · exact .inl (.inl m)
    · exact .inr (by simpa using m)
  · exact .inl (.inr m)
theorem Stp.push {p : Addr} {o : HO} (e : H p = none) : Stp (Mo C ρ) H (Mo C (ρ ++ [[p]])) (upd H p o) where
  keepK := keepE fun b u q _ => by rw [upd_ne (ne_of_none q e)]; exact q
  new := fun b m => by
    rcases Mo.snoc m with m | m
    · exact .inl m
    · exact .inr (m ▸ e)
theorem get_snoc {α : Type} {l : List α} {x y : α} {n : Nat} (e : (l ++ [x])[n]? = some y) : l[n]? = some y ∨ (n = l.length ∧ y = x) := by
  by_cases hn : n < l.length
  · rw [List.getElem?_append_left hn] at e
    exact .inl e
  · rw [List.getElem?_append_right (by omega)] at e
    have : n - l.length = 0 := by
      cases q : n - l.length with
      | zero => rfl
      | succ m => rw [q] at e; simp at e
    rw [this] at e
    refine .inr ⟨by omega, ?_⟩
    have e' : x = y := by simpa using e
    exact e'.symm
/-- a new object of the def's own -/
theorem SimH.push (S : SimH K C ρ h H) {p : Addr} {o : HO} {ob : Ob} (e : H p = none) (x : ObOk K (upd H p o) (Mo C (ρ ++ [[p]])) [p] ob) : SimH K C (ρ ++ [[p]]) (h ++ [ob]) (upd H p o) where
  len := by rw [List.length_append, List.length_append, S.len]; rfl
  nd := by
    rw [flatten_snoc, List.nodup_append]
    refine ⟨S.nd, by simp, fun a m b m' z => ?_⟩
    have m'' : b = p := by simpa using m'
    subst m''
    subst z
    obtain ⟨u, q⟩ := S.trk a m
    rw [e] at q; cases q
  trk := fun a m => by
    rw [flatten_snoc] at m
    rcases List.mem_append.mp m with m | m
    · obtain ⟨u, q⟩ := S.trk a m
      exact ⟨u, by rw [upd_ne (ne_of_none q e)]; exact q⟩
    · have : a = p := by simpa using m
      subst this
      exact ⟨o, upd_same⟩
  obj := fun n fp q e1 e2 => by
    rcases get_snoc e1 with e1 | ⟨hn, e1⟩
    · rcases get_snoc e2 with e2 | ⟨hn2, e2⟩
      · refine ObOk.stp (Stp.push e) (fun a m => ?_) (S.obj n fp q e1 e2)
        obtain ⟨u, z⟩ := S.trk a (List.mem_flatten.mpr ⟨fp, List.mem_of_getElem? e1, m⟩)
        exact upd_ne (ne_of_none z e)
      · have := (List.getElem?_eq_some_iff.mp e1).1
        have := S.len
        omega
    · subst e1
      rcases get_snoc e2 with e2 | ⟨hn2, e2⟩
      · have := (List.getElem?_eq_some_iff.mp e2).1
        have := S.len
        omega
      · subst e2
        exact x
  frK := fun b u q n => by
    obtain ⟨u', q', k⟩ := S.frK b u q n
    exact ⟨u', by rw [upd_ne (ne_of_none q' e)]; exact q', k⟩
  own := fun a m => by
    rw [flatten_snoc] at m
    rcases List.mem_append.mp m with m | m
    · exact S.own a m
    · have : a = p := by simpa using m
      subst this
      by_cases hw : a ∈ C.W.flatten
      · exact .inl hw
      · refine .inr ?_
        cases q : C.H0 a with
        | none => rfl
        | some u =>
          obtain ⟨u', q', _⟩ := S.frK a u q hw
          rw [q'] at e; cases e
  bar := fun b m => by
    obtain ⟨n, u, q⟩ := S.bar b m
    refine ⟨fun z => ?_, u, by rw [upd_ne (ne_of_none q e)]; exact q⟩
    rw [flatten_snoc] at z
    rcases List.mem_append.mp z with z | z
    · exact n z
    · have : b = p := by simpa using z
      subst this
      rw [e] at q; cases q
  wtr := fun a m => by
    obtain ⟨u, q⟩ := S.wtr a m
    exact ⟨u, by rw [upd_ne (ne_of_none q e)]; exact q⟩
  pre := fun n fp q => by
    have e' := S.pre n fp q
    rw [List.getElem?_append_left (List.getElem?_eq_some_iff.mp e').1]; exact e'
  tab := (TabKp.new e).tabs S.tab
  bnt := fun b xs m z => by
    obtain ⟨_, u, q⟩ := S.bar b m
    rw [upd_ne (ne_of_none q e)] at z
    exact S.bnt b xs m z
theorem Ex.push {p : Addr} {o : HO} (e : H p = none) : Ex C ρ H (ρ ++ [[p]]) (upd H p o) := ⟨Stp.push e, fun n fp q => ⟨fp, by
  rw [List.getElem?_append_left (List.getElem?_eq_some_iff.mp q).1]; exact q, pfx_rfl⟩⟩
theorem SlV.pushed {p : Addr} (H : Hp) : SlV K C (ρ ++ [[p]]) H (.ref p) (.loc ρ.length) := ⟨[p], p, by simp, rfl, rfl⟩
theorem flat_at {n : Nat} {fp : List Addr} {a : Addr} (e : ρ[n]? = some fp) (m : a ∈ fp) : a ∈ ρ.flatten := List.mem_flatten.mpr ⟨fp, List.mem_of_getElem? e, m⟩
theorem nodup_apart : ∀ {ρ : Fps} {n m : Nat} {f g : List Addr} {a : Addr}, ρ.flatten.Nodup → ρ[n]? = some f → ρ[m]? = some g → a ∈ f → a ∈ g → n = m
  | [], _, _, _, _, _, _, e, _, _, _ => by simp at e
  | x :: r, n, m, f, g, a, nd, e1, e2, m1, m2 => by
    rw [List.flatten_cons, List.nodup_append] at nd
    obtain ⟨_, nd2, dj⟩ := nd
    cases n with
    | zero =>
      cases m with
      | zero => rfl
      | succ m =>
        have e1' : x = f := by simpa using e1
        subst e1'
        exact absurd rfl (dj a m1 a (flat_at (ρ := r) (n := m) (by simpa using e2) m2))
    | succ n =>
      cases m with
      | zero =>
        have e2' : x = g := by simpa using e2
        subst e2'
        exact absurd rfl (dj a m2 a (flat_at (ρ := r) (n := n) (by simpa using e1) m1))
      | succ m => exact congrArg (· + 1) (nodup_apart (ρ := r) nd2 (by simpa using e1) (by simpa using e2) m1 m2)
/-- an object of the def's own is changed -/
theorem SimH.write (S : SimH K C ρ h H) {n : Nat} {a : Addr} {o : HO} {ob : Ob} (e : ρ[n]? = some [a]) (x : ObOk K (upd H a o) (Mo C ρ) [a] ob) : SimH K C ρ (h.set n ob) (upd H a o) ∧ Ex C ρ H ρ (upd H a o) := by
  have ma : a ∈ ρ.flatten := flat_at e (by simp)
  have st : Stp (Mo C ρ) H (Mo C ρ) (upd H a o) := ⟨keepE fun b u q nm => by
    have : b ≠ a := fun z => nm (z ▸ .inl ma)
    rw [upd_ne this]; exact q, fun _ m => .inl m⟩
  have tk : TabKp H (upd H a o) := by
    have hl : n < h.length := by rw [← S.len]; exact (List.getElem?_eq_some_iff.mp e).1
    obtain ⟨u, eu, nu⟩ := (S.obj n [a] _ e (List.getElem?_eq_getElem hl)).nte (a := a) (by simp)
    exact TabKp.put eu nu
  refine ⟨⟨by rw [List.length_set]; exact S.len, S.nd, fun b m => ?_, fun k fp q e1 e2 => ?_, fun b u q nw => ?_, S.own, fun b m => ?_, fun b m => ?_, S.pre, tk.tabs S.tab, fun b xs m z => S.bnt b xs m (by
    have hb : b ≠ a := fun w => (S.bar b m).1 (by rw [w]; exact ma)
    rw [upd_ne hb] at z
    exact z)⟩, ⟨st, fun _ fp q => ⟨fp, q, pfx_rfl⟩⟩⟩
  · by_cases hb : b = a
    · subst hb; exact ⟨o, upd_same⟩
    · obtain ⟨u, q⟩ := S.trk b m
      exact ⟨u, by rw [upd_ne hb]; exact q⟩
  · by_cases hk : n = k
    · subst hk
      rw [e] at e1; cases e1
      rw [List.getElem?_set, if_pos rfl] at e2
      split at e2
      · cases e2; exact x
      · cases e2
    · rw [List.getElem?_set_ne hk] at e2
      refine ObOk.stp st (fun b m => upd_ne fun z => ?_) (S.obj k fp q e1 e2)
      subst z
      exact hk (nodup_apart S.nd e e1 (by simp) m)
  · obtain ⟨u', q', kk⟩ := S.frK b u q nw
    have : b ≠ a := fun z => by
      subst z
      rcases S.own b ma with w | w
      · exact nw w
      · rw [q] at w; cases w
    exact ⟨u', by rw [upd_ne this]; exact q', kk⟩
  · obtain ⟨n, u, q⟩ := S.bar b m
    have : b ≠ a := fun z => n (z ▸ ma)
    exact ⟨n, u, by rw [upd_ne this]; exact q⟩
  · by_cases hb : b = a
    · subst hb; exact ⟨o, upd_same⟩
    · obtain ⟨u, q⟩ := S.wtr b m
      exact ⟨u, by rw [upd_ne hb]; exact q⟩
/-- no object of a def's own is a tuple -/
theorem ObOk.ntu {M : Ms} {fp : List Addr} {o : Ob} (x : ObOk K H M fp o) {a : Addr} (m : a ∈ fp) (xs : List V) : H a ≠ some (.tup xs) := by
  cases o with
  | lst ds =>
    obtain ⟨b, vs, rfl, e, r⟩ := x
    have : a = b := by simpa using m
    subst this
    rw [e]; exact fun z => nomatch z
  | dic kvs =>
    obtain ⟨b, vs, rfl, e, r⟩ := x
    have : a = b := by simpa using m
    subst this
    rw [e]; exact fun z => nomatch z
  | dtp ks =>
    obtain ⟨b, rfl, e⟩ := x
    have : a = b := by simpa using m
    subst this
    rw [e]; exact fun z => nomatch z
  | dtq kvs =>
    obtain ⟨b, vs, rfl, e, _⟩ := x
    have : a = b := by simpa using m
    subst this
    rw [e]; exact fun z => nomatch z
  | lls dss =>
    obtain ⟨b, bs, rfl, e, l, w⟩ := x
    rcases List.mem_cons.mp m with z | z
    · subst z
      rw [e]; exact fun z => nomatch z
    · obtain ⟨i, hi, ei⟩ := List.getElem_of_mem z
      have hl : i < dss.length := by omega
      obtain ⟨vs, e3, _⟩ := w i a dss[i] (by rw [← ei]; exact List.getElem?_eq_getElem hi) (List.getElem?_eq_getElem hl)
      rw [e3]; exact fun z => nomatch z
  | dil dss ks =>
    obtain ⟨b, bs, rfl, e, _, l, w⟩ := x
    rcases List.mem_cons.mp m with z | z
    · subst z
      rw [e]; exact fun z => nomatch z
    · obtain ⟨i, hi, ei⟩ := List.getElem_of_mem z
      have hl : i < dss.length := by omega
      obtain ⟨vs, e3, _⟩ := w i a dss[i] (by rw [← ei]; exact List.getElem?_eq_getElem hi) (List.getElem?_eq_getElem hl)
      rw [e3]; exact fun z => nomatch z
  | gone =>
    have e : fp = [] := x
    subst e
    cases m
/-- a tuple is not barred -/
theorem SimH.free (S : SimH K C ρ h H) {a : Addr} {xs : List V} (e : H a = some (.tup xs)) : ¬ Mo C ρ a := fun m => by
  rcases m with m | m
  · obtain ⟨fp, m1, m2⟩ := List.mem_flatten.mp m
    obtain ⟨n, hn, en⟩ := List.getElem_of_mem m1
    have hl : n < h.length := by rw [← S.len]; exact hn
    exact ObOk.ntu (S.obj n fp _ (by rw [← en]; exact List.getElem?_eq_getElem hn) (List.getElem?_eq_getElem hl)) m2 xs e
  · exact S.bnt a ⟨.tup xs, trivial⟩ m e
theorem SimH.freeX (S : SimH K C ρ h H) {a : Addr} {xs : Hd} (e : H a = some xs.o) : ¬ Mo C ρ a := fun m => by
  rcases m with m | m
  · obtain ⟨fp, m1, m2⟩ := List.mem_flatten.mp m
    obtain ⟨n, hn, en⟩ := List.getElem_of_mem m1
    have hl : n < h.length := by rw [← S.len]; exact hn
    have z := S.obj n fp _ (by rw [← en]; exact List.getElem?_eq_getElem hn) (List.getElem?_eq_getElem hl)
    obtain ⟨o, hd⟩ := xs
    cases o with
    | tup ys => exact ObOk.ntu z m2 ys e
    | ext f =>
      obtain ⟨u, eu, nu⟩ := z.nte m2
      have e' : H a = some (.ext f) := e
      rw [e'] at eu
      cases eu
      exact nu.2 _ rfl
    | _ => exact hd
  · exact S.bnt a xs m e
theorem SimH.lst (S : SimH K C ρ h H) {n : Nat} {fp : List Addr} {a : Addr} {ds : List PyData} (e1 : ρ[n]? = some fp) (e2 : fp.head? = some a) (e3 : h[n]? = some (.lst ds)) : ρ[n]? = some [a] ∧ ∃ vs, H a = some (.lst vs) ∧ RpAll K H (Mo C ρ) vs ds := by
  obtain ⟨b, vs, rfl, q, r⟩ := S.obj n fp _ e1 e3
  have : b = a := by simpa using e2
  subst this
  exact ⟨e1, vs, q, r⟩
/-- one more that is barred -/
def Fc.plus (C : Fc) (D : Addr) : Fc := { C with Bar := fun a => C.Bar a ∨ a = D }
/-- a part of the def's run as a frame of its own: it may change the def's own objects -/
def Fc.sub (C : Fc) (ρ : Fps) (H : Hp) : Fc := { H0 := H, W := ρ, Bar := C.Bar, T := C.T, exc := C.exc }
theorem SimH.sub (S : SimH K C ρ h H) : SimH K (C.sub ρ H) ρ h H where
  len := S.len
  nd := S.nd
  trk := S.trk
  obj := S.obj
  frK := fun _ o e _ => ⟨o, e, .inl rfl⟩
  own := fun _ m => .inl m
  bar := S.bar
  wtr := S.trk
  pre := fun n fp e => e
  tab := S.tab
  bnt := S.bnt
theorem SimH.back (S : SimH K C ρ h H) {ρ1 : Fps} {h1 : Hs} {H1 : Hp} (S1 : SimH K (C.sub ρ H) ρ1 h1 H1) (w : ∀ a ∈ C.W.flatten, ∃ o, H1 a = some o) : SimH K C ρ1 h1 H1 where
  len := S1.len
  nd := S1.nd
  trk := S1.trk
  obj := S1.obj
  frK := fun b o e n => by
    obtain ⟨o1, e1, k1⟩ := S.frK b o e n
    obtain ⟨o2, e2, k2⟩ := S1.frK b o1 e1 fun m => by
      rcases S.own b m with q | q
      · exact n q
      · rw [e] at q; cases q
    exact ⟨o2, e2, k1.trans k2⟩
  own := fun a m => by
    rcases S1.own a m with q | q
    · exact S.own a q
    · by_cases hw : a ∈ C.W.flatten
      · exact .inl hw
      · refine .inr ?_
        cases e : C.H0 a with
        | none => rfl
        | some o =>
          have q' : H a = none := q
          obtain ⟨o1, e1, _⟩ := S.frK a o e hw
          rw [e1] at q'; cases q'
  bar := S1.bar
  wtr := w
  pre := fun n fp e => S1.pre n fp (S.pre n fp e)
  tab := S1.tab
  bnt := S1.bnt
theorem SimH.wsub (S : SimH K C ρ h H) {ρ1 : Fps} {h1 : Hs} {H1 : Hp} (S1 : SimH K (C.sub ρ H) ρ1 h1 H1) : ∀ a ∈ C.W.flatten, ∃ o, H1 a = some o := fun a m => by
  by_cases hm : a ∈ ρ.flatten
  · exact S1.wtr a hm
  · obtain ⟨o, e⟩ := S.wtr a m
    obtain ⟨o1, e1, _⟩ := S1.frK a o e hm
    exact ⟨o1, e1⟩
theorem SimH.backW (S : SimH K C ρ h H) {ρ1 : Fps} {h1 : Hs} {H1 : Hp} (S1 : SimH K (C.sub ρ H) ρ1 h1 H1) : SimH K C ρ1 h1 H1 := S.back S1 (S.wsub S1)
/-- a new object, barred for a while -/
theorem Stp.plus {D : Addr} {o : HO} (e : H D = none) : Stp (Mo C ρ) H (Mo (C.plus D) ρ) (upd H D o) where
  keepK := keepE fun b u q _ => by rw [upd_ne (ne_of_none q e)]; exact q
  new := fun b m => by
    rcases m with m | m | m
    · exact .inl (.inl m)
    · exact .inl (.inr m)
    · exact .inr (m ▸ e)
theorem SimH.plus (S : SimH K C ρ h H) {D : Addr} {o : HO} (e : H D = none) (ho : ∀ xs : Hd, o ≠ xs.o := by rintro ⟨_, hd⟩ z; subst z; exact hd) : SimH K (C.plus D) ρ h (upd H D o) where
  len := S.len
  nd := S.nd
  trk := (S.laid (o := o) e).trk
  obj := fun n fp ob e1 e2 => ObOk.stp (Stp.plus e) (fun a m => by
    obtain ⟨u, q⟩ := S.trk a (flat_at e1 m)
    exact upd_ne (ne_of_none q e)) (S.obj n fp ob e1 e2)
  frK := (S.laid (o := o) e).frK
  own := S.own
  bar := fun b m => by
    rcases m with m | m
    · exact (S.laid (o := o) e).bar b m
    · subst m
      refine ⟨fun z => ?_, o, upd_same⟩
      obtain ⟨u, q⟩ := S.trk b z
      rw [e] at q; cases q
  wtr := (S.laid (o := o) e).wtr
  pre := S.pre
  tab := (TabKp.new e).tabs S.tab
  bnt := fun b xs m z => by
    rcases m with m | m
    · exact (S.laid (o := o) e).bnt b xs m z
    · subst m
      rw [upd_same] at z
      exact ho xs (Option.some.inj z)
/-- a barred object is changed: no data has it -/
theorem Stp.poke {D : Addr} {o : HO} (b : C.Bar D) : Stp (Mo C ρ) H (Mo C ρ) (upd H D o) where
  keepK := keepE fun c u q n => by
    have : c ≠ D := fun z => n (z ▸ .inr b)
    rw [upd_ne this]; exact q
  new := fun _ m => .inl m
theorem SimH.poke (S : SimH K C ρ h H) {D : Addr} {o u0 : HO} (b : C.Bar D) (n0 : C.H0 D = none) (e0 : H D = some u0) (nt : NTE u0) (ho : ∀ xs : Hd, o ≠ xs.o := by rintro ⟨_, hd⟩ z; subst z; exact hd) : SimH K C ρ h (upd H D o) where
  len := S.len
  nd := S.nd
  trk := fun a m => by
    have : a ≠ D := fun z => (S.bar D b).1 (z ▸ m)
    rw [upd_ne this]; exact S.trk a m
  obj := fun n fp ob e1 e2 => ObOk.stp (Stp.poke b) (fun a m => by
    have : a ≠ D := fun z => (S.bar D b).1 (z ▸ flat_at e1 m)
    exact upd_ne this) (S.obj n fp ob e1 e2)
  frK := fun c u q nw => by
    have : c ≠ D := fun z => by rw [z, n0] at q; cases q
    rw [upd_ne this]; exact S.frK c u q nw
  own := S.own
  bar := fun c m => by
    refine ⟨(S.bar c m).1, ?_⟩
    by_cases hc : c = D
    · subst hc; exact ⟨o, upd_same⟩
    · rw [upd_ne hc]; exact (S.bar c m).2
  wtr := fun a m => by
    by_cases hc : a = D
    · subst hc; exact ⟨o, upd_same⟩
    · rw [upd_ne hc]; exact S.wtr a m
  pre := S.pre
  tab := (TabKp.put e0 nt).tabs S.tab
  bnt := fun c xs m z => by
    by_cases hc : c = D
    · subst hc
      rw [upd_same] at z
      exact ho xs (Option.some.inj z)
    · rw [upd_ne hc] at z
      exact S.bnt c xs m z
theorem Mo.unplus {D b : Addr} (m : Mo C ρ b) : Mo (C.plus D) ρ b := by
  rcases m with m | m
  · exact .inl m
  · exact .inr (.inl m)
theorem ObOk.fewer {M M' : Ms} {fp : List Addr} {o : Ob} (s : ∀ b, M' b → M b) (x : ObOk K H M fp o) : ObOk K H M' fp o := by
  cases o with
  | lst ds =>
    obtain ⟨a, vs, rfl, e, r⟩ := x
    exact ⟨a, vs, rfl, e, r.fewer s⟩
  | dic kvs =>
    obtain ⟨a, vs, rfl, e, q, r⟩ := x
    exact ⟨a, vs, rfl, e, q, r.fewer s⟩
  | lls dss =>
    obtain ⟨a, bs, rfl, e, l, w⟩ := x
    refine ⟨a, bs, rfl, e, l, fun i b ds e1 e2 => ?_⟩
    obtain ⟨vs, e3, r⟩ := w i b ds e1 e2
    exact ⟨vs, e3, r.fewer s⟩
  | dil dss ks =>
    obtain ⟨a, bs, rfl, e, u, l, w⟩ := x
    refine ⟨a, bs, rfl, e, u, l, fun i b ds e1 e2 => ?_⟩
    obtain ⟨vs, e3, r⟩ := w i b ds e1 e2
    exact ⟨vs, e3, r.fewer s⟩
  | dtp ks => exact x
  | dtq kvs =>
    obtain ⟨a, vs, rfl, e, q, r⟩ := x
    exact ⟨a, vs, rfl, e, q, r.fewer s⟩
  | gone => exact x
theorem SimH.unplus {D : Addr} (S : SimH K (C.plus D) ρ h H) : SimH K C ρ h H where
  len := S.len
  nd := S.nd
  trk := S.trk
  obj := fun n fp ob e1 e2 => ObOk.fewer (fun _ => Mo.unplus) (S.obj n fp ob e1 e2)
  frK := S.frK
  own := S.own
  bar := fun b m => S.bar b (.inl m)
  wtr := S.wtr
  pre := S.pre
  tab := S.tab
  bnt := fun b xs m => S.bnt b xs (.inl m)
/-- the barred object becomes one of the def's own -/
theorem Mo.adopt {D b : Addr} : Mo C (ρ ++ [[D]]) b ↔ Mo (C.plus D) ρ b := by
  unfold Mo
  rw [flatten_snoc]
  constructor
  · rintro (m | m)
    · rcases List.mem_append.mp m with m | m
      · exact .inl m
      · exact .inr (.inr (by simpa using m))
    · exact .inr (.inl m)
  · rintro (m | m | m)
    · exact .inl (List.mem_append_left _ m)
    · exact .inr m
    · exact .inl (List.mem_append_right _ (by simp [m]))
theorem SimH.adopt {D : Addr} (S : SimH K (C.plus D) ρ h H) {ob : Ob} (n0 : C.H0 D = none) (nb : ¬ C.Bar D) (x : ObOk K H (Mo (C.plus D) ρ) [D] ob) : SimH K C (ρ ++ [[D]]) (h ++ [ob]) H where
  len := by rw [List.length_append, List.length_append, S.len]; rfl
  nd := by
    rw [flatten_snoc, List.nodup_append]
    refine ⟨S.nd, by simp, fun a m b m' z => ?_⟩
    have m'' : b = D := by simpa using m'
    subst m''
    subst z
    exact (S.bar a (.inr rfl)).1 m
  trk := fun a m => by
    rw [flatten_snoc] at m
    rcases List.mem_append.mp m with m | m
    · exact S.trk a m
    · have : a = D := by simpa using m
      subst this
      exact (S.bar a (.inr rfl)).2
  obj := fun n fp q e1 e2 => by
    rcases get_snoc e1 with e1 | ⟨hn, e1⟩
    · rcases get_snoc e2 with e2 | ⟨hn2, e2⟩
      · exact ObOk.fewer (fun _ => Mo.adopt.mp) (S.obj n fp q e1 e2)
      · have := (List.getElem?_eq_some_iff.mp e1).1
        have := S.len
        omega
    · subst e1
      rcases get_snoc e2 with e2 | ⟨hn2, e2⟩
      · have := (List.getElem?_eq_some_iff.mp e2).1
        have := S.len
        omega
      · subst e2
        exact ObOk.fewer (fun _ => Mo.adopt.mp) x
  frK := S.frK
  own := fun a m => by
    rw [flatten_snoc] at m
    rcases List.mem_append.mp m with m | m
    · exact S.own a m
    · have : a = D := by simpa using m
      subst this
      exact .inr n0
  bar := fun b m => by
    refine ⟨fun z => ?_, (S.bar b (.inl m)).2⟩
    rw [flatten_snoc] at z
    rcases List.mem_append.mp z with z | z
    · exact (S.bar b (.inl m)).1 z
    · have : b = D := by simpa using z
      subst this
      exact nb m
  wtr := S.wtr
  pre := fun n fp q => by
    have e' := S.pre n fp q
    rw [List.getElem?_append_left (List.getElem?_eq_some_iff.mp e').1]; exact e'
  tab := S.tab
  bnt := fun b xs m => S.bnt b xs (.inl m)
theorem SimH.wlen (S : SimH K C ρ h H) : C.W.length ≤ h.length := by
  cases q : C.W.length with
  | zero => exact Nat.zero_le _
  | succ m =>
    have hm : m < C.W.length := by omega
    have e' := S.pre m _ (List.getElem?_eq_getElem hm)
    have := (List.getElem?_eq_some_iff.mp e').1
    have := S.len
    omega
/-- only the first n objects are kept -/
theorem flatten_take_mem {n : Nat} {a : Addr} (m : a ∈ (ρ.take n).flatten) : a ∈ ρ.flatten := by
  obtain ⟨fp, h1, h2⟩ := List.mem_flatten.mp m
  exact List.mem_flatten.mpr ⟨fp, List.mem_of_mem_take h1, h2⟩
theorem Mo.take {n : Nat} {b : Addr} (m : Mo C (ρ.take n) b) : Mo C ρ b := by
  rcases m with m | m
  · exact .inl (flatten_take_mem m)
  · exact .inr m
theorem get_take {α : Type} {l : List α} {n i : Nat} {x : α} (e : (l.take n)[i]? = some x) : l[i]? = some x := by
  rw [List.getElem?_take] at e
  split at e
  · exact e
  · cases e
theorem SimH.take (S : SimH K C ρ h H) (n : Nat) (hn : C.W.length ≤ n) : SimH K C (ρ.take n) (h.take n) H where
  len := by rw [List.length_take, List.length_take, S.len]
  nd := by
    have e : ρ.flatten = (ρ.take n).flatten ++ (ρ.drop n).flatten := by rw [← List.flatten_append, List.take_append_drop]
    have q := S.nd
    rw [e] at q
    exact (List.nodup_append.mp q).1
  trk := fun a m => S.trk a (flatten_take_mem m)
  obj := fun k fp o e1 e2 => ObOk.fewer (fun _ => Mo.take) (S.obj k fp o (get_take e1) (get_take e2))
  frK := S.frK
  own := fun a m => S.own a (flatten_take_mem m)
  bar := fun b m => ⟨fun z => (S.bar b m).1 (flatten_take_mem z), (S.bar b m).2⟩
  wtr := S.wtr
  pre := fun k fp q => by
    have e' := S.pre k fp q
    have := (List.getElem?_eq_some_iff.mp q).1
    rw [List.getElem?_take, if_pos (by omega)]; exact e'
  tab := S.tab
  bnt := S.bnt
theorem Stp.take (n : Nat) : Stp (Mo C ρ) H (Mo C (ρ.take n)) H := ⟨keepE fun _ _ e _ => e, fun _ m => .inl (Mo.take m)⟩
end
end FL
namespace FL
open PySem PySem.Spec PyProof.Rows L2
/-- how an exception lies -/
def XnOk (K : PySem.W.Frag) (mg : Str → Option Value) (H : Hp) (M : Ms) (x : Exn) (cls : Value) (d : Option Addr) : Prop :=
  mg x.cls = some cls ∧ ((x.fs = [] ∧ d = none) ∨ x.fs ≠ [] ∧ ∃ da vs, d = some da ∧ H da = some (.xd vs) ∧ vs.map (·.1) = x.fs.map (·.1) ∧ RpAll K H M (vs.map (·.2)) (x.fs.map (·.2)))
/-- what is to be shown of an outcome -/
def Po {α β : Type} (K : PySem.W.Frag) (mg : Str → Option Value) (C : Fc) (Wx : WX) (σ : St) (ρ : Fps) (H : Hp) (rel : Fps → Hp → β → α → Prop) (r : Rz α) (Q : β → Hp → Prop) : Prop := match r with
  | .ok a h' => ∀ (ρ' : Fps) (b : β) (H' : Hp), Ex C ρ H ρ' H' → SimH K C ρ' h' H' → rel ρ' H' b a → Q b H'
  | .err x h' => ∀ (ρ' : Fps) (H' : Hp) (cls : Value) (d : Option Addr), Ex C ρ H ρ' H' → SimH K C ρ' h' H' → XnOk K mg H' (Mo C ρ') x cls d → Wx cls d σ H'
  | .bad => False
def rd {α β : Type} (K : PySem.W.Frag) (mg : Str → Option Value) (C : Fc) (Wx : WX) (rel : Fps → Hp → β → α → Prop) (f : En → Hs → Rz α) : St → Hp → (β → Hp → Prop) → Prop := fun σ H Q =>
  ∃ (ρ : Fps) (env : En) (h : Hs), SimH K C ρ h H ∧ EnvOk K C ρ H env σ ∧ Po K mg C Wx σ ρ H rel (f env h) Q
abbrev relE (K : PySem.W.Frag) (C : Fc) : Fps → Hp → V → Sl → Prop := fun ρ H v s => SlV K C ρ H v s
abbrev relA (K : PySem.W.Frag) (C : Fc) : Fps → Hp → List V → List Sl → Prop := fun ρ H v s => SlVs K C ρ H v s
abbrev relT : Fps → Hp → Bool → Bool → Prop := fun _ _ b c => b = c
abbrev relO : Fps → Hp → Option Int → Option Int → Prop := fun _ _ b c => b = c
abbrev FE (X : Cx) (C : Fc) (Wx : WX) (e : Expr) (f : Ev) : Prop := PE X e (rd X.K X.mg C Wx (relE X.K C) f)
abbrev FT (X : Cx) (C : Fc) (Wx : WX) (e : Expr) (f : Tv) : Prop := PT X e (rd X.K X.mg C Wx relT f)
abbrev FW (X : Cx) (C : Fc) (Wx : WX) (e : Expr) (f : Tv) : Prop := PW X e (rd X.K X.mg C Wx relT f)
abbrev FA (X : Cx) (C : Fc) (Wx : WX) (es : List Expr) (f : Av) : Prop := PA X es (rd X.K X.mg C Wx (relA X.K C) f)
abbrev FO (X : Cx) (C : Fc) (Wx : WX) (e : Option Expr) (f : En → Hs → Rz (Option Int)) : Prop := PO X e (rd X.K X.mg C Wx relO f)
theorem PE.imp {X : Cx} {e : Expr} {t t' : TE} (h : PE X e t) (i : ∀ σ H Q, t' σ H Q → t σ H Q) : PE X e t' := ⟨fun pins s σ H Q I q => h.run pins s σ H Q I (i σ H Q q)⟩
theorem PT.imp {X : Cx} {e : Expr} {t t' : TT} (h : PT X e t) (i : ∀ σ H Q, t' σ H Q → t σ H Q) : PT X e t' := ⟨fun pins s σ H Q I q => h.run pins s σ H Q I (i σ H Q q)⟩
theorem PW.imp {X : Cx} {e : Expr} {t t' : TT} (h : PW X e t) (i : ∀ σ H Q, t' σ H Q → t σ H Q) : PW X e t' := ⟨fun wh pins s σ H Q I q => h.run wh pins s σ H Q I (i σ H Q q)⟩
theorem PA.imp {X : Cx} {e : List Expr} {t t' : TA} (h : PA X e t) (i : ∀ σ H Q, t' σ H Q → t σ H Q) : PA X e t' := ⟨fun pos pins s σ H Q I q => h.run pos pins s σ H Q I (i σ H Q q)⟩
theorem PO.imp {X : Cx} {e : Option Expr} {t t' : TO} (h : PO X e t) (i : ∀ σ H Q, t' σ H Q → t σ H Q) : PO X e t' := ⟨fun pins s σ H Q I q => h.run pins s σ H Q I (i σ H Q q)⟩
theorem PS.imp {X : Cx} {e : Stmt} {t t' : TS} (h : PS X e t) (i : ∀ D σ H, t' D σ H → t D σ H) : PS X e t' := ⟨fun pins s σ H D I q => h.run pins s σ H D I (i D σ H q)⟩
theorem PSs.imp {X : Cx} {e : List Stmt} {t t' : TS} (h : PSs X e t) (i : ∀ D σ H, t' D σ H → t D σ H) : PSs X e t' := ⟨fun pins s σ H D I q => h.run pins s σ H D I (i D σ H q)⟩
section
variable {K : PySem.W.Frag} {mg : Str → Option Value} {C : Fc} {Wx : WX} {σ : St} {H : Hp}
/-- an outcome behind a step -/
theorem Po.ex {α β : Type} {ρ ρ1 : Fps} {H1 : Hp} {rel : Fps → Hp → β → α → Prop} {r : Rz α} {Q : β → Hp → Prop} (x : Ex C ρ H ρ1 H1) (p : Po K mg C Wx σ ρ H rel r Q) : Po K mg C Wx σ ρ1 H1 rel r Q := by
  cases r with
  | ok a h' => exact fun ρ' b H' x' S r => p ρ' b H' (x.trans x') S r
  | err y h' => exact fun ρ' H' cls d s S q => p ρ' H' cls d (x.trans s) S q
  | bad => exact p
/-- THE BIND: a first part, then the rest -/
theorem rd.bind {α β γ δ : Type} {r1 : Fps → Hp → β → α → Prop} {r2 : Fps → Hp → δ → γ → Prop} {f : En → Hs → Rz α} {g : α → En → Hs → Rz γ} {Q : δ → Hp → Prop}
    (p : rd K mg C Wx r2 (fun env h => (f env h).bind fun a h => g a env h) σ H Q) {R : β → Hp → Prop}
    (k : ∀ ρ1 env h1 a b H1, SimH K C ρ1 h1 H1 → EnvOk K C ρ1 H1 env σ → r1 ρ1 H1 b a → Po K mg C Wx σ ρ1 H1 r2 (g a env h1) Q → R b H1) : rd K mg C Wx r1 f σ H R := by
  obtain ⟨ρ, env, h, S, E, P⟩ := p
  refine ⟨ρ, env, h, S, E, ?_⟩
  cases e : f env h with
  | ok a h1 =>
    intro ρ1 b H1 x S1 q
    have P' : Po K mg C Wx σ ρ H r2 ((f env h).bind fun a h => g a env h) Q := P
    rw [e] at P'
    exact k ρ1 env h1 a b H1 S1 (E.ex x) q (P'.ex x)
  | err y h1 =>
    have P' : Po K mg C Wx σ ρ H r2 ((f env h).bind fun a h => g a env h) Q := P
    rw [e] at P'
    exact P'
  | bad =>
    have P' : Po K mg C Wx σ ρ H r2 ((f env h).bind fun a h => g a env h) Q := P
    rw [e] at P'
    exact P'
theorem Po.bind {α β γ δ : Type} {r1 : Fps → Hp → β → α → Prop} {r2 : Fps → Hp → δ → γ → Prop} {ρ : Fps} {r : Rz α} {g : α → Hs → Rz γ} {Q : δ → Hp → Prop} {R : β → Hp → Prop} (P : Po K mg C Wx σ ρ H r2 (r.bind g) Q)
    (k : ∀ ρ1 h1 a b H1, r = .ok a h1 → Ex C ρ H ρ1 H1 → SimH K C ρ1 h1 H1 → r1 ρ1 H1 b a → Po K mg C Wx σ ρ1 H1 r2 (g a h1) Q → R b H1) : Po K mg C Wx σ ρ H r1 r R := by
  cases r with
  | ok a h1 => exact fun ρ1 b H1 x S1 q => k ρ1 h1 a b H1 rfl x S1 q (Po.ex (r := g a h1) x P)
  | err y h1 => exact P
  | bad => exact P
theorem rd.of {α β : Type} {rel : Fps → Hp → β → α → Prop} {f : En → Hs → Rz α} {Q : β → Hp → Prop} {ρ : Fps} {env : En} {h : Hs} (S : SimH K C ρ h H) (E : EnvOk K C ρ H env σ) (p : Po K mg C Wx σ ρ H rel (f env h) Q) : rd K mg C Wx rel f σ H Q := ⟨ρ, env, h, S, E, p⟩
end
def eVar (i : Nat) : Ev := fun env h => match env[i]? with
  | some (some s) => .ok s h
  | _ => .bad
def eK (d : PyData) : Ev := fun _ h => .ok (.val d) h
section
variable {X : Cx} {C : Fc} {Wx : WX}
theorem fe_var (i : Nat) {x : Str} {pos : Pos} (hN : X.N[i]? = some x := by rfl) (hv : Vis X.env.scope x := by first | exact Or.inl rfl | exact Or.inr (Or.inl rfl) | exact Or.inr (Or.inr rfl)) (hd : (x == ("__debug__" : Str)) = false := by decide)
    (hcd : (x == ("__classdict__" : Str)) = false := by decide) : FE X C Wx (.Name x pos) (eVar i) := by
  refine PE.imp (pe_var hN hv hd hcd) fun σ H Q ⟨ρ, env, h, S, E, P⟩ => ?_
  have P' : Po X.K X.mg C Wx σ ρ H (relE X.K C) (eVar i env h) Q := P
  unfold eVar at P'
  split at P'
  · rename_i s e
    obtain ⟨v, e1, r⟩ := E.at_ i s e
    exact ⟨v, e1, P' ρ v H (Ex.refl _ _ _) S r⟩
  · exact P'.elim
theorem fe_const {e : Expr} {v : V} {d : PyData} (h : PE X e (tC v)) (r : ∀ H M, Rp X.K H M v d) : FE X C Wx e (eK d) :=
  PE.imp h fun σ H Q ⟨ρ, env, hh, S, E, P⟩ => P ρ v H (Ex.refl _ _ _) S (r _ _)
theorem fe_int {i j pos} : FE X C Wx (.Constant (.int i) j pos) (eK (.int i)) := fe_const pe_int fun _ _ => .int i
theorem fe_bl {b j pos} : FE X C Wx (.Constant (.bool b) j pos) (eK (.bool b)) := fe_const pe_bl fun _ _ => .bl b
theorem fe_non {j pos} : FE X C Wx (.Constant .none j pos) (eK .none) := fe_const pe_non fun _ _ => .non
/-- a module's constant that is an int -/
theorem fe_globI {x : Str} {i : Int} {pos : Pos} (hg : Gl X x) (hm : ∃ t, X.mg x = some (.int i t)) (hd : (x == ("__debug__" : Str)) = false := by decide) : FE X C Wx (.Name x pos) (eK (.int i)) := by
  obtain ⟨t, hm⟩ := hm
  exact fe_const (v := .int i) (pe_glob hg hm ⟨t, rfl⟩ hd) fun _ _ => .int i
end
abbrev G2 := Sl → Sl → Hs → Option PyData
abbrev GL := List Sl → Hs → Option PyData
def Rz.give (o : Option PyData) (h : Hs) : Rz Sl := match o with
  | some d => .ok (.val d) h
  | none => .bad
def cBin (g : G2) (f1 f2 : Ev) : Ev := fun env h => (f1 env h).bind fun s h => (f2 env h).bind fun t h => .give (g s t h) h
def cUn (g : Sl → Hs → Option PyData) (f : Ev) : Ev := fun env h => (f env h).bind fun s h => .give (g s h) h
def cCB (g : GL) (f : Av) : Ev := fun env h => (f env h).bind fun ss h => .give (g ss h) h
def rd2 (K : PySem.W.Frag) (C : Fc) (g : G2) : R2 := fun x y H Q => ∃ ρ h s t d, SimH K C ρ h H ∧ SlV K C ρ H x s ∧ SlV K C ρ H y t ∧ g s t h = some d ∧
  ∀ v H', Ex C ρ H ρ H' → SimH K C ρ h H' → Rp K H' (Mo C ρ) v d → Q v H'
def rdC (K : PySem.W.Frag) (C : Fc) (g : GL) : List V → Hp → VK → Prop := fun xs H Q => ∃ ρ h ss d, SimH K C ρ h H ∧ SlVs K C ρ H xs ss ∧ g ss h = some d ∧
  ∀ v H', Ex C ρ H ρ H' → SimH K C ρ h H' → Rp K H' (Mo C ρ) v d → Q v H'
def rd1 (K : PySem.W.Frag) (C : Fc) (g : Sl → Hs → Option PyData) : V → Hp → VK → Prop := fun x H Q => ∃ ρ h s d, SimH K C ρ h H ∧ SlV K C ρ H x s ∧ g s h = some d ∧
  ∀ v H', Ex C ρ H ρ H' → SimH K C ρ h H' → Rp K H' (Mo C ρ) v d → Q v H'
section
variable {K : PySem.W.Frag} {mg : Str → Option Value} {C : Fc} {Wx : WX} {σ : St} {H : Hp}
theorem Po.given {ρ : Fps} {h : Hs} {o : Option PyData} {Q : VK} (p : Po K mg C Wx σ ρ H (relE K C) (.give o h) Q) : ∃ d, o = some d ∧ ∀ v H', Ex C ρ H ρ H' → SimH K C ρ h H' → Rp K H' (Mo C ρ) v d → Q v H' := by
  cases o with
  | none => exact p.elim
  | some d => exact ⟨d, rfl, fun v H' x S r => p ρ v H' x S r⟩
theorem rd.bin {g : G2} {f1 f2 : Ev} {Q : VK} (p : rd K mg C Wx (relE K C) (cBin g f1 f2) σ H Q) :
    rd K mg C Wx (relE K C) f1 σ H fun x H1 => rd K mg C Wx (relE K C) f2 σ H1 fun y H2 => rd2 K C g x y H2 Q := by
  refine rd.bind (f := f1) (g := fun s env h => (f2 env h).bind fun t h => .give (g s t h) h) p fun ρ1 env h1 s x H1 S1 E1 r1 P1 => ?_
  refine rd.of (env := env) (h := h1) S1 E1 ?_
  cases e : f2 env h1 with
  | ok t h2 =>
    intro ρ2 y H2 x2 S2 r2
    rw [e] at P1
    obtain ⟨d, e3, q⟩ := (Po.ex x2 P1).given
    exact ⟨ρ2, h2, s, t, d, S2, SlV.ex x2 r1, r2, e3, q⟩
  | err y h2 => rw [e] at P1; exact P1
  | bad => rw [e] at P1; exact P1
theorem rd.un {g : Sl → Hs → Option PyData} {f : Ev} {Q : VK} (p : rd K mg C Wx (relE K C) (cUn g f) σ H Q) : rd K mg C Wx (relE K C) f σ H fun x H1 => rd1 K C g x H1 Q :=
  rd.bind (f := f) (g := fun s env h => .give (g s h) h) p fun ρ1 env h1 s x H1 S1 E1 r1 P1 =>
    let ⟨d, e, q⟩ := P1.given
    ⟨ρ1, h1, s, d, S1, r1, e, q⟩
theorem rd.cb {g : GL} {f : Av} {Q : VK} (p : rd K mg C Wx (relE K C) (cCB g f) σ H Q) : rd K mg C Wx (relA K C) f σ H fun x H1 => rdC K C g x H1 Q :=
  rd.bind (f := f) (g := fun s env h => .give (g s h) h) p fun ρ1 env h1 s x H1 S1 E1 r1 P1 =>
    let ⟨d, e, q⟩ := P1.given
    ⟨ρ1, h1, s, d, S1, r1, e, q⟩
end
theorem OpR.imp {X : Cx} {f : Value → Value → Sem Value} {r r' : R2} (h : OpR X f r) (i : ∀ x y H Q, r' x y H Q → r x y H Q) : OpR X f r' := fun pins s σ H x y v u Q I rx ry q => h pins s σ H x y v u Q I rx ry (i _ _ _ _ q)
theorem UnR.imp {X : Cx} {f : Value → Sem Value} {r r' : V → Hp → VK → Prop} (h : UnR X f r) (i : ∀ x H Q, r' x H Q → r x H Q) : UnR X f r' := fun pins s σ H x v Q I rx q => h pins s σ H x v Q I rx (i _ _ _ q)
theorem CallR.imp {X : Cx} {f : Value} {r r' : List V → Hp → VK → Prop} (h : CallR X f r) (i : ∀ x H Q, r' x H Q → r x H Q) : CallR X f r' := fun pins s σ H x v Q I rx q => h pins s σ H x v Q I rx (i _ _ _ q)
theorem IxR.imp {X : Cx} {r r' : R2} (h : IxR X r) (i : ∀ x y H Q, r' x y H Q → r x y H Q) : IxR X r' := fun va sl pins s σ H x y v u Q I rx ry q hs => h va sl pins s σ H x y v u Q I rx ry (i _ _ _ _ q) hs
/-- two rules for one primitive -/
theorem OpR.two {X : Cx} {C : Fc} {f : Value → Value → Sem Value} {g g1 g2 : G2} (h1 : OpR X f (rd2 X.K C g1)) (h2 : OpR X f (rd2 X.K C g2)) (i : ∀ s t h, g s t h = none ∨ g s t h = g1 s t h ∨ g s t h = g2 s t h) : OpR X f (rd2 X.K C g) := by
  intro pins s σ H x y v u Q I rx ry q
  obtain ⟨ρ, h, a, b, d, S, r1, r2, e, k⟩ := q
  rcases i a b h with z | z | z
  · rw [z] at e; cases e
  · exact h1 pins s σ H x y v u Q I rx ry ⟨ρ, h, a, b, d, S, r1, r2, z ▸ e, k⟩
  · exact h2 pins s σ H x y v u Q I rx ry ⟨ρ, h, a, b, d, S, r1, r2, z ▸ e, k⟩
section
variable {X : Cx} {C : Fc} {Wx : WX} {a b c : Expr} {f1 f2 f3 : Ev} {pos : Pos}
theorem fe_op {op : Operator} {g : G2} (ho : OpR X (binaryOp op) (rd2 X.K C g)) (ha : FE X C Wx a f1) (hb : FE X C Wx b f2) : FE X C Wx (.BinOp a op b pos) (cBin g f1 f2) := PE.imp (pe_op ho ha hb) fun _ _ _ => rd.bin
theorem fe_cmp {op : CmpOp} {g : G2} (ho : OpR X (compareOp op) (rd2 X.K C g)) (ha : FE X C Wx a f1) (hb : FE X C Wx b f2) (hm : behindInMarks op b = false) : FE X C Wx (.Compare a [op] [b] pos) (cBin g f1 f2) := PE.imp (pe_cmpR ho ha hb hm) fun _ _ _ => rd.bin
theorem fe_un {op : UnaryOp} {g : Sl → Hs → Option PyData} (ho : UnR X (unaryOp op) (rd1 X.K C g)) (ha : FE X C Wx a f1) : FE X C Wx (.UnaryOp op a pos) (cUn g f1) := PE.imp (pe_un ho ha) fun _ _ _ => rd.un
theorem fe_ix {g : G2} (ho : IxR X (rd2 X.K C g)) (ha : FE X C Wx a f1) (hb : FE X C Wx b f2) (hs : PlainIx b) : FE X C Wx (.Subscript a b pos) (cBin g f1 f2) := PE.imp (pe_ix ho ha hb hs) fun _ _ _ => rd.bin
end
def Rz.truth (s : Sl) (h : Hs) : Rz Bool := match s with
  | .val (.bool b) => .ok b h
  | _ => .bad
/-- a value that is a truth, as a test -/
def tV (f : Ev) : Tv := fun env h => (f env h).bind fun s h => .truth s h
def tNo (f : Tv) : Tv := fun env h => (f env h).bind fun b h => .ok (!b) h
def tAn (f g : Tv) : Tv := fun env h => (f env h).bind fun b h => if b = true then g env h else .ok false h
def tOr_ (f g : Tv) : Tv := fun env h => (f env h).bind fun b h => if b = true then .ok true h else g env h
section
variable {K : PySem.W.Frag} {mg : Str → Option Value} {C : Fc} {Wx : WX} {σ : St} {H : Hp}
theorem Po.truth {ρ : Fps} {h : Hs} {s : Sl} {v : V} {Q : Bool → Hp → Prop} (S : SimH K C ρ h H) (r : SlV K C ρ H v s) (p : Po K mg C Wx σ ρ H relT (.truth s h) Q) : ∃ k, v = .bl k ∧ Q k H := by
  cases s with
  | loc n => exact p.elim
  | inn n i => exact p.elim
  | exn x => exact p.elim
  | val d =>
    cases d with
    | bool b =>
      cases (show Rp K H (Mo C ρ) v (.bool b) from r)
      exact ⟨b, rfl, p ρ b H (Ex.refl _ _ _) S rfl⟩
    | _ => exact p.elim
theorem rd.tv {f : Ev} {Q : Bool → Hp → Prop} (p : rd K mg C Wx relT (tV f) σ H Q) : rd K mg C Wx (relE K C) f σ H fun x H1 => ∃ k, x = .bl k ∧ Q k H1 :=
  rd.bind (f := f) (g := fun s env h => .truth s h) p fun ρ1 env h1 s x H1 S1 E1 r1 P1 => P1.truth S1 r1
end
section
variable {X : Cx} {C : Fc} {Wx : WX} {a b c : Expr} {f1 f2 f3 : Ev} {g1 g2 : Tv} {pos : Pos} {rest : List Expr}
theorem ft_cmp {op : CmpOp} {g : G2} (ho : OpR X (compareOp op) (rd2 X.K C g)) (ha : FE X C Wx a f1) (hb : FE X C Wx b f2) (hm : behindInMarks op b = false) : FT X C Wx (.Compare a [op] [b] pos) (tV (cBin g f1 f2)) :=
  PT.imp (pt_cmpR ho ha hb hm) fun _ _ _ p => rd.bin (mg := X.mg) (Wx := Wx) (by
    obtain ⟨ρ, env, h, S, E, P⟩ := rd.tv p
    exact ⟨ρ, env, h, S, E, P⟩)
theorem ft_val (ha : FE X C Wx a f1) (he : ∀ whole, isTrue a X.env whole = (do let v ← whole; standAt a.pos; holding [v] (truthy v)) := by intro _; rfl) : FT X C Wx a (tV f1) := PT.imp (pt_val ha he) fun _ _ _ => rd.tv
theorem ft_not (ha : FT X C Wx a g1) : FT X C Wx (.UnaryOp .Not a pos) (tNo g1) := PT.imp (pt_not ha) fun σ H Q p =>
  rd.bind (f := g1) (g := fun s env h => .ok (!s) h) p fun ρ1 env h1 s x H1 S1 E1 r1 P1 => by
    have e : x = s := r1
    subst e
    exact P1 ρ1 (!x) H1 (Ex.refl _ _ _) S1 rfl
theorem fw_and1 (ha : FT X C Wx a g1) : FW X C Wx (.BoolOp .And [a] pos) g1 := pw_and1 ha
theorem fw_or1 (ha : FT X C Wx a g1) : FW X C Wx (.BoolOp .Or [a] pos) g1 := pw_or1 ha
theorem fw_and (ha : FT X C Wx a g1) (hb : FW X C Wx (.BoolOp .And (b :: rest) pos) g2) : FW X C Wx (.BoolOp .And (a :: b :: rest) pos) (tAn g1 g2) := PW.imp (pw_and ha hb) fun σ H Q p =>
  rd.bind (f := g1) (g := fun s env h => if s = true then g2 env h else .ok false h) p fun ρ1 env h1 s x H1 S1 E1 r1 P1 => by
    have e : x = s := r1
    subst e
    cases x with
    | true => exact rd.of S1 E1 P1
    | false => exact P1 ρ1 false H1 (Ex.refl _ _ _) S1 rfl
theorem fw_or (ha : FT X C Wx a g1) (hb : FW X C Wx (.BoolOp .Or (b :: rest) pos) g2) : FW X C Wx (.BoolOp .Or (a :: b :: rest) pos) (tOr_ g1 g2) := PW.imp (pw_or ha hb) fun σ H Q p =>
  rd.bind (f := g1) (g := fun s env h => if s = true then .ok true h else g2 env h) p fun ρ1 env h1 s x H1 S1 E1 r1 P1 => by
    have e : x = s := r1
    subst e
    cases x with
    | false => exact rd.of S1 E1 P1
    | true => exact P1 ρ1 true H1 (Ex.refl _ _ _) S1 rfl
theorem ft_w (h : FW X C Wx a g1) : FT X C Wx a g1 := h.pt
def eAnd (f g : Ev) : Ev := fun env h => (f env h).bind fun s h => match s with
  | .val (.bool true) => g env h
  | .val (.bool false) => .ok (.val (.bool false)) h
  | _ => .bad
def eOr (f g : Ev) : Ev := fun env h => (f env h).bind fun s h => match s with
  | .val (.bool true) => .ok (.val (.bool true)) h
  | .val (.bool false) => g env h
  | _ => .bad
def eNot (f : Ev) : Ev := fun env h => (f env h).bind fun s h => match s with
  | .val (.bool b) => .ok (.val (.bool (!b))) h
  | _ => .bad
theorem fe_one {op} (h : FE X C Wx a f1) : FE X C Wx (.BoolOp op [a] pos) f1 := pe_one h
theorem fe_and (ha : FE X C Wx a f1) (hb : FE X C Wx (.BoolOp .And (b :: rest) pos) f2) : FE X C Wx (.BoolOp .And (a :: b :: rest) pos) (eAnd f1 f2) := PE.imp (pe_and ha hb) fun σ H Q p => by
  refine rd.bind (f := f1) (g := fun s env h => match s with
    | .val (.bool true) => f2 env h
    | .val (.bool false) => .ok (.val (.bool false)) h
    | _ => .bad) p fun ρ1 env h1 s x H1 S1 E1 r1 P1 => ?_
  cases s with
  | loc n => exact P1.elim
  | inn n i => exact P1.elim
  | exn x => exact P1.elim
  | val d =>
    cases d with
    | bool k =>
      cases (show Rp X.K H1 (Mo C ρ1) x (.bool k) from r1)
      refine ⟨k, rfl, ?_⟩
      cases k with
      | true => exact rd.of S1 E1 P1
      | false => exact P1 ρ1 (.bl false) H1 (Ex.refl _ _ _) S1 (Rp.bl false)
    | _ => exact P1.elim
theorem fe_not (ha : FE X C Wx a f1) : FE X C Wx (.UnaryOp .Not a pos) (eNot f1) := PE.imp (pe_not ha) fun σ H Q p => by
  refine rd.bind (f := f1) (g := fun s env h => match s with
    | .val (.bool b) => (.ok (.val (.bool (!b))) h : Rz Sl)
    | _ => .bad) p fun ρ1 env h1 s x H1 S1 E1 r1 P1 => ?_
  cases s with
  | loc n => exact P1.elim
  | inn n i => exact P1.elim
  | exn x => exact P1.elim
  | val d =>
    cases d with
    | bool k =>
      cases (show Rp X.K H1 (Mo C ρ1) x (.bool k) from r1)
      exact ⟨k, rfl, P1 ρ1 (.bl (!k)) H1 (Ex.refl _ _ _) S1 (Rp.bl (!k))⟩
    | _ => exact P1.elim
def eIf (c : Tv) (f g : Ev) : Ev := fun env h => (c env h).bind fun b h => if b = true then f env h else g env h
def eChain (g1 g2 : G2) (f1 f2 f3 : Ev) : Ev := fun env h => (f1 env h).bind fun s h => (f2 env h).bind fun t h => match g1 s t h with
  | some (.bool true) => (f3 env h).bind fun u h => .give (g2 t u h) h
  | some (.bool false) => .ok (.val (.bool false)) h
  | _ => .bad
theorem rd.chain {K : PySem.W.Frag} {mg : Str → Option Value} {C : Fc} {Wx : WX} {σ : St} {H : Hp} {g1 g2 : G2} {f1 f2 f3 : Ev} {Q : VK} (p : rd K mg C Wx (relE K C) (eChain g1 g2 f1 f2 f3) σ H Q) :
    tChain (rd2 K C g1) (rd2 K C g2) (rd K mg C Wx (relE K C) f1) (rd K mg C Wx (relE K C) f2) (rd K mg C Wx (relE K C) f3) σ H Q := by
  refine rd.bind (f := f1) (g := fun s env h => (f2 env h).bind fun t h => match g1 s t h with
    | some (.bool true) => (f3 env h).bind fun u h => .give (g2 t u h) h
    | some (.bool false) => .ok (.val (.bool false)) h
    | _ => .bad) p fun ρ1 env h1 s x H1 S1 E1 r1 P1 => ?_
  refine rd.of (env := env) (h := h1) S1 E1 ?_
  cases e : f2 env h1 with
  | err y h2 => rw [e] at P1; exact P1
  | bad => rw [e] at P1; exact P1
  | ok t h2 =>
    intro ρ2 y H2 x2 S2 r2
    rw [e] at P1
    have P2 := Po.ex x2 P1
    have P3 : Po K mg C Wx σ ρ2 H2 (relE K C) (match g1 s t h2 with
      | some (.bool true) => (f3 env h2).bind fun u h => .give (g2 t u h) h
      | some (.bool false) => .ok (.val (.bool false)) h2
      | _ => .bad) Q := P2
    cases e3 : g1 s t h2 with
    | none => rw [e3] at P3; exact P3.elim
    | some d =>
      rw [e3] at P3
      cases d with
      | bool k =>
        refine ⟨ρ2, h2, s, t, .bool k, S2, SlV.ex x2 r1, r2, e3, fun v H3 x3 S3 r3 => ?_⟩
        cases r3
        refine ⟨k, rfl, ?_⟩
        cases k with
        | false =>
          rw [if_neg Bool.false_ne_true]
          exact P3 ρ2 (.bl false) H3 x3 S3 (Rp.bl false)
        | true =>
          rw [if_pos rfl]
          refine rd.of (env := env) (h := h2) S3 ((E1.ex x2).ex x3) ?_
          have P4 : Po K mg C Wx σ ρ2 H2 (relE K C) ((f3 env h2).bind fun u h => .give (g2 t u h) h) Q := P3
          cases e4 : f3 env h2 with
          | err z h3 => rw [e4] at P4; exact Po.ex (r := Rz.err z h3) x3 P4
          | bad => rw [e4] at P4; exact P4
          | ok u h3 =>
            rw [e4] at P4
            intro ρ4 w H4 x4 S4 r4
            obtain ⟨d, e5, q⟩ := (Po.ex (x3.trans x4) P4).given
            exact ⟨ρ4, h3, t, u, d, S4, SlV.ex (x3.trans x4) r2, r4, e5, q⟩
      | _ => exact P3.elim
theorem fe_chain {op op' : CmpOp} {r1 r2 : G2} (ho : OpR X (compareOp op) (rd2 X.K C r1)) (ho' : OpR X (compareOp op') (rd2 X.K C r2)) (ha : FE X C Wx a f1) (hb : FE X C Wx b f2) (hc : FE X C Wx c f3)
    (hm : lastMarks [op, op'] [b, c] = false := by with_unfolding_all rfl) : FE X C Wx (.Compare a [op, op'] [b, c] pos) (eChain r1 r2 f1 f2 f3) := PE.imp (pe_chain ho ho' ha hb hc hm) fun _ _ _ => rd.chain
end
def aNil : Av := fun _ h => .ok [] h
def aCons (f : Ev) (g : Av) : Av := fun env h => (f env h).bind fun s h => (g env h).bind fun ss h => .ok (s :: ss) h
/-- all data -/
def vals? : List Sl → Option (List PyData)
  | [] => some []
  | .val d :: r => (vals? r).map (d :: ·)
  | _ :: _ => none
def lineOk (n : Nat) : Bool := decide (n ≤ 16777216)
theorem lineOk_le {n : Nat} (h : lineOk n = true) : n ≤ sizeLine := by rw [sizeLine_eq]; exact of_decide_eq_true h
def eTup (f : Av) : Ev := fun env h => (f env h).bind fun ss h => .give ((vals? ss).bind fun ds => if lineOk ds.length then some (.tuple ds) else none) h
def eLst (f : Av) : Ev := fun env h => (f env h).bind fun ss h => .give ((vals? ss).bind fun ds => if lineOk ds.length then some (.list ds) else none) h
/-- a list of the def's own -/
def eNew (f : Av) : Ev := fun env h => (f env h).bind fun ss h => match vals? ss with
  | some ds => if lineOk ds.length then .ok (.loc h.length) (h ++ [.lst ds]) else .bad
  | none => .bad
section
variable {K : PySem.W.Frag} {C : Fc} {ρ : Fps} {H : Hp}
theorem vals_rel : ∀ {vs : List V} {ss : List Sl} {ds : List PyData}, SlVs K C ρ H vs ss → vals? ss = some ds → RpAll K H (Mo C ρ) vs ds
  | _, _, ds, .nil, e => by
    have e' : some ([] : List PyData) = some ds := e
    cases e'; exact .nil
  | _, _, ds, .cons (b := .val d) r t, e => by
    have e' : (vals? _).map (d :: ·) = some ds := e
    cases q : vals? _ with
    | none => rw [q] at e'; cases e'
    | some es =>
      rw [q] at e'
      cases e'
      exact .cons r (vals_rel t q)
  | _, _, _, .cons (b := .loc n) r t, e => by cases (show none = some _ from e)
  | _, _, _, .cons (b := .inn n i) r t, e => by cases (show none = some _ from e)
  | _, _, _, .cons (b := .exn x) r t, e => by cases (show none = some _ from e)
end
section
variable {X : Cx} {C : Fc} {Wx : WX} {e : Expr} {es : List Expr} {f : Ev} {g : Av} {pos : Pos}
theorem fa_nil : FA X C Wx [] aNil := PA.imp pa_nil fun σ H Q ⟨ρ, env, h, S, E, P⟩ => P ρ [] H (Ex.refl _ _ _) S .nil
theorem fa_cons (ha : FE X C Wx e f) (hr : FA X C Wx es g) (hs : starEach (e :: es) X.env = (false, eval e X.env) :: starEach es X.env := by rfl) : FA X C Wx (e :: es) (aCons f g) := PA.imp (pa_cons ha hr hs) fun σ H Q p => by
  refine rd.bind (f := f) (g := fun s env h => (g env h).bind fun ss h => .ok (s :: ss) h) p fun ρ1 env h1 s x H1 S1 E1 r1 P1 => ?_
  refine rd.of (env := env) (h := h1) S1 E1 ?_
  cases q : g env h1 with
  | err y h2 => rw [q] at P1; exact P1
  | bad => rw [q] at P1; exact P1
  | ok ss h2 =>
    intro ρ2 ys H2 x2 S2 r2
    rw [q] at P1
    exact P1 ρ2 (x :: ys) H2 x2 S2 (.cons (SlV.ex x2 r1) r2)
theorem give_disp {mk : List PyData → PyData} {ss : List Sl} {h : Hs} {mg : Str → Option Value} {σ : St} {ρ : Fps} {H : Hp} {Q : VK} (p : Po X.K mg C Wx σ ρ H (relE X.K C) (.give ((vals? ss).bind fun ds => if lineOk ds.length then some (mk ds) else none) h) Q) :
    ∃ ds, vals? ss = some ds ∧ ds.length ≤ sizeLine ∧ ∀ v H', Ex C ρ H ρ H' → SimH X.K C ρ h H' → Rp X.K H' (Mo C ρ) v (mk ds) → Q v H' := by
  obtain ⟨d, e, q⟩ := p.given
  cases z : vals? ss with
  | none => rw [z] at e; cases e
  | some ds =>
    rw [z] at e
    have e' : (if lineOk ds.length then some (mk ds) else none) = some d := e
    split at e'
    · rename_i hl
      cases e'
      exact ⟨ds, rfl, lineOk_le hl, q⟩
    · cases e'
theorem fe_tup {x1} (h : FA X C Wx es g) : FE X C Wx (.Tuple es x1 pos) (eTup g) := PE.imp (pe_tup h) fun σ H Q p => by
  refine rd.bind (f := g) (g := fun ss env h => .give ((vals? ss).bind fun ds => if lineOk ds.length then some (.tuple ds) else none) h) p fun ρ1 env h1 ss xs H1 S1 E1 r1 P1 => ?_
  obtain ⟨ds, e, hl, q⟩ := give_disp P1
  have r := vals_rel r1 e
  exact ⟨by rw [r.length]; exact hl, fun p hp => q _ _ (Ex.laid S1 hp) (S1.laid hp) (Rp.newTup S1 hp r)⟩
theorem fe_lst (h : FA X C Wx es g) : FE X C Wx (.List es pos) (eLst g) := PE.imp (pe_lst h) fun σ H Q p => by
  refine rd.bind (f := g) (g := fun ss env h => .give ((vals? ss).bind fun ds => if lineOk ds.length then some (.list ds) else none) h) p fun ρ1 env h1 ss xs H1 S1 E1 r1 P1 => ?_
  obtain ⟨ds, e, hl, q⟩ := give_disp P1
  have r := vals_rel r1 e
  exact ⟨by rw [r.length]; exact hl, fun p hp => q _ _ (Ex.laid S1 hp) (S1.laid hp) (Rp.newLst S1 hp r)⟩
theorem push_lst {ρ : Fps} {h : Hs} {H : Hp} {p : Addr} {vs : List V} {ds : List PyData} {K : PySem.W.Frag} (S : SimH K C ρ h H) (hp : H p = none) (r : RpAll K H (Mo C ρ) vs ds) : SimH K C (ρ ++ [[p]]) (h ++ [.lst ds]) (upd H p (.lst vs)) :=
  S.push hp ⟨p, vs, rfl, upd_same, r.stp (Stp.push hp)⟩
theorem fe_new (h : FA X C Wx es g) : FE X C Wx (.List es pos) (eNew g) := PE.imp (pe_lst h) fun σ H Q p => by
  refine rd.bind (f := g) (g := fun ss env h => match vals? ss with
    | some ds => if lineOk ds.length then (.ok (.loc h.length) (h ++ [.lst ds]) : Rz Sl) else .bad
    | none => .bad) p fun ρ1 env h1 ss xs H1 S1 E1 r1 P1 => ?_
  cases e : vals? ss with
  | none => rw [e] at P1; exact P1.elim
  | some ds =>
    rw [e] at P1
    have r := vals_rel r1 e
    have P2 : Po X.K X.mg C Wx σ ρ1 H1 (relE X.K C) (if lineOk ds.length then .ok (.loc h1.length) (h1 ++ [.lst ds]) else .bad) Q := P1
    split at P2
    · rename_i hl
      refine ⟨by rw [r.length]; exact lineOk_le hl, fun p hp => P2 (ρ1 ++ [[p]]) (.ref p) _ (Ex.push hp) (push_lst S1 hp r) ?_⟩
      rw [← S1.len]
      exact SlV.pushed _
    · exact P2.elim
end
end FL
namespace FL
open PySem PySem.Spec PyProof.Rows L2
/-- the items of a list or tuple -/
def inn? (h : Hs) (n i : Nat) : Option (List PyData) := match h[n]? with
  | some (.lls dss) => dss[i]?
  | some (.dil dss _) => dss[i]?
  | _ => none
def items (s : Sl) (h : Hs) : Option (List PyData) := match s with
  | .val (.list ds) => some ds
  | .val (.tuple ds) => some ds
  | .loc n => match h[n]? with
    | some (.lst ds) => some ds
    | _ => none
  | .inn n i => inn? h n i
  | _ => none
/-- as data -/
def dat (s : Sl) (h : Hs) : Option PyData := match s with
  | .val d => some d
  | .loc n => match h[n]? with
    | some (.lst ds) => some (.list ds)
    | _ => none
  | .inn n i => (inn? h n i).map .list
  | .exn _ => none
theorem SimH.inn {K : PySem.W.Frag} {C : Fc} {ρ : Fps} {h : Hs} {H : Hp} (S : SimH K C ρ h H) {n i : Nat} {fp : List Addr} {a : Addr} {ds : List PyData} (e1 : ρ[n]? = some fp) (e2 : fp[i + 1]? = some a) (e3 : inn? h n i = some ds) : ∃ vs, H a = some (.lst vs) ∧ RpAll K H (Mo C ρ) vs ds := by
  unfold inn? at e3
  split at e3
  · rename_i dss e4
    obtain ⟨b, bs, rfl, _, _, w⟩ := S.obj n fp _ e1 e4
    exact w i a ds (by simpa using e2) e3
  · rename_i dss ks e4
    obtain ⟨b, bs, rfl, _, _, _, w⟩ := S.obj n fp _ e1 e4
    exact w i a ds (by simpa using e2) e3
  · cases e3
section
variable {K : PySem.W.Frag} {C : Fc} {ρ : Fps} {H : Hp} {h : Hs} {v : V} {s : Sl}
theorem items_rel {ds : List PyData} (S : SimH K C ρ h H) (r : SlV K C ρ H v s) (e : items s h = some ds) : ∃ a vs, v = .ref a ∧ (SqL K H a vs ∨ SqT K H a vs) ∧ RpAll K H (Mo C ρ) vs ds := by
  unfold items at e
  split at e
  · rename_i ds'
    cases e
    cases (show Rp K H (Mo C ρ) v (.list ds) from r) with
    | lst q a => exact ⟨_, _, rfl, .inl q.sq, a⟩
  · rename_i ds'
    cases e
    cases (show Rp K H (Mo C ρ) v (.tuple ds) from r) with
    | tup q a => exact ⟨_, _, rfl, .inr q.sq, a⟩
  · rename_i n
    obtain ⟨fp, a, e1, e2, rfl⟩ := r
    split at e
    · rename_i ds' e3
      cases e
      obtain ⟨_, vs, q, a⟩ := S.lst e1 e2 e3
      exact ⟨_, vs, rfl, .inl (SqL.of q), a⟩
    · cases e
  · rename_i n i
    obtain ⟨fp, a, e1, e2, rfl⟩ := r
    obtain ⟨vs, q, ra⟩ := S.inn e1 e2 e
    exact ⟨_, vs, rfl, .inl (SqL.of q), ra⟩
  · cases e
theorem dat_rel {d : PyData} (S : SimH K C ρ h H) (r : SlV K C ρ H v s) (e : dat s h = some d) (nd : d.hasDict = false) : Dp K H v d := by
  unfold dat at e
  split at e
  · cases e
    exact Rp.dp _ _ nd r
  · rename_i n
    obtain ⟨fp, a, e1, e2, rfl⟩ := r
    split at e
    · rename_i ds' e3
      cases e
      obtain ⟨_, vs, q, a⟩ := S.lst e1 e2 e3
      exact .lst (SqL.of q) (RpAll.dp _ _ (by simpa only [PyData.hasDict] using nd) a)
    · cases e
  · rename_i n i
    obtain ⟨fp, a, e1, e2, rfl⟩ := r
    cases q0 : inn? h n i with
    | none => rw [q0] at e; cases e
    | some ds =>
      rw [q0] at e
      cases e
      obtain ⟨vs, q, ra⟩ := S.inn e1 e2 q0
      exact .lst (SqL.of q) (RpAll.dp _ _ (by simpa only [PyData.hasDict] using nd) ra)
  · cases e
end
/-- an operation on two ints -/
def gI (f : Int → Int → Option PyData) : G2 := fun s t _ => match s, t with
  | .val (.int i), .val (.int j) => f i j
  | _, _ => none
theorem gI_some {f : Int → Int → Option PyData} {s t : Sl} {h : Hs} {d : PyData} (e : gI f s t h = some d) : ∃ i j, s = .val (.int i) ∧ t = .val (.int j) ∧ f i j = some d := by
  unfold gI at e
  split at e
  · exact ⟨_, _, rfl, rfl, e⟩
  · cases e
section
variable {X : Cx} {C : Fc}
theorem o_int {f : Value → Value → Sem Value} {g : Int → Int → Option PyData} {r : R2} (ho : OpR X f r) (i : ∀ i j d H Q, g i j = some d → (∀ v, Rp X.K H (fun _ => True) v d → Q v H) → r (.int i) (.int j) H Q)
    (sc : ∀ i j d, g i j = some d → ∀ H M M' v, Rp X.K H M v d → Rp X.K H M' v d) : OpR X f (rd2 X.K C (gI g)) := OpR.imp ho fun x y H Q ⟨ρ, h, s, t, d, S, r1, r2, e, k⟩ => by
  obtain ⟨a, b, rfl, rfl, e⟩ := gI_some e
  cases (show Rp X.K H (Mo C ρ) x (.int a) from r1)
  cases (show Rp X.K H (Mo C ρ) y (.int b) from r2)
  exact i a b d H Q e fun v r => k v H (Ex.refl _ _ _) S (sc a b d e _ _ _ _ r)
def fAdd (i j : Int) : Option PyData := some (.int (i + j))
def fSub (i j : Int) : Option PyData := some (.int (i - j))
def fMul (i j : Int) : Option PyData := if (-(2 ^ 64) < i ∧ i < 2 ^ 64) ∨ (-(2 ^ 64) < j ∧ j < 2 ^ 64) then some (.int (i * j)) else none
def fMod (i j : Int) : Option PyData := if 0 < j then some (.int (i % j)) else none
def fDiv (i j : Int) : Option PyData := if 0 < j ∧ j < 18446744073709551616 then some (.int (i / j)) else none
theorem log2_64 {j : Int} (h : 0 < j ∧ j < 18446744073709551616) : j.natAbs.log2 < 9000 := by
  have h0 : j.natAbs ≠ 0 := by omega
  have h1 : j.natAbs < 2 ^ 64 := by omega
  have := (Nat.log2_lt h0).mpr h1
  omega
def fPow (i j : Int) : Option PyData := if 0 ≤ j ∧ j ≤ 1000000 ∧ i.natAbs < 2 ^ 64 then some (.int (i ^ j.toNat)) else none
def fLt (i j : Int) : Option PyData := some (.bool (decide (i < j)))
def fLe (i j : Int) : Option PyData := some (.bool (decide (i ≤ j)))
def fGt (i j : Int) : Option PyData := some (.bool (decide (j < i)))
def fGe (i j : Int) : Option PyData := some (.bool (decide (j ≤ i)))
theorem sc_int {K : PySem.W.Frag} {H : Hp} {M M' : Ms} {v : V} {n : Int} (r : Rp K H M v (.int n)) : Rp K H M' v (.int n) := by cases r; exact .int n
theorem sc_bool {K : PySem.W.Frag} {H : Hp} {M M' : Ms} {v : V} {n : Bool} (r : Rp K H M v (.bool n)) : Rp K H M' v (.bool n) := by cases r; exact .bl n
theorem o_sub : OpR X (binaryOp .Sub) (rd2 X.K C (gI fSub)) := o_int op_sub (fun i j d H Q e k => by cases e; exact ⟨i, j, rfl, rfl, k _ (.int _)⟩) (fun i j d e H M M' v r => by cases e; exact sc_int r)
theorem o_mul : OpR X (binaryOp .Mult) (rd2 X.K C (gI fMul)) := o_int op_mul (fun i j d H Q e k => by
    unfold fMul at e
    split at e
    · rename_i c
      cases e; exact ⟨i, j, rfl, rfl, c, k _ (.int _)⟩
    · cases e) (fun i j d e H M M' v r => by
    unfold fMul at e
    split at e
    · cases e; exact sc_int r
    · cases e)
theorem o_mod : OpR X (binaryOp .Mod) (rd2 X.K C (gI fMod)) := o_int op_mod (fun i j d H Q e k => by
    unfold fMod at e
    split at e
    · rename_i c
      cases e; exact ⟨i, j, rfl, rfl, c, k _ (.int _)⟩
    · cases e) (fun i j d e H M M' v r => by
    unfold fMod at e
    split at e
    · cases e; exact sc_int r
    · cases e)
theorem o_div : OpR X (binaryOp .FloorDiv) (rd2 X.K C (gI fDiv)) := o_int op_fdivW (fun i j d H Q e k => by
    unfold fDiv at e
    split at e
    · rename_i c
      cases e; exact ⟨i, j, rfl, rfl, ⟨c.1, log2_64 c⟩, k _ (.int _)⟩
    · cases e) (fun i j d e H M M' v r => by
    unfold fDiv at e
    split at e
    · cases e; exact sc_int r
    · cases e)
theorem o_pow : OpR X (binaryOp .Pow) (rd2 X.K C (gI fPow)) := o_int op_pow (fun i j d H Q e k => by
    unfold fPow at e
    split at e
    · rename_i c
      cases e; exact ⟨i, j, rfl, rfl, c, k _ (.int _)⟩
    · cases e) (fun i j d e H M M' v r => by
    unfold fPow at e
    split at e
    · cases e; exact sc_int r
    · cases e)
theorem o_lt : OpR X (compareOp .Lt) (rd2 X.K C (gI fLt)) := o_int op_lt (fun i j d H Q e k => by cases e; exact ⟨i, j, rfl, rfl, k _ (.bl _)⟩) (fun i j d e H M M' v r => by cases e; exact sc_bool r)
theorem o_le : OpR X (compareOp .LtE) (rd2 X.K C (gI fLe)) := o_int op_le (fun i j d H Q e k => by cases e; exact ⟨i, j, rfl, rfl, k _ (.bl _)⟩) (fun i j d e H M M' v r => by cases e; exact sc_bool r)
theorem o_gt : OpR X (compareOp .Gt) (rd2 X.K C (gI fGt)) := o_int op_gt (fun i j d H Q e k => by cases e; exact ⟨i, j, rfl, rfl, k _ (.bl _)⟩) (fun i j d e H M M' v r => by cases e; exact sc_bool r)
def shp (d : PyData) : Bool := SeqAt.shaped d
theorem shp_nd {d : PyData} (h : shp d = true) : d.hasDict = false := PyData.hasDict_of_canLay d (SeqAt.canLay_of_shaped h)
/-- what may be compared: texts, data of a shape -/
def eqOk (d e : PyData) : Bool := match d, e with
  | .str _, .str _ => true
  | _, _ => shp d && shp e
theorem eqOk_or {d e : PyData} (h : eqOk d e = true) : (∃ a b, d = .str a ∧ e = .str b) ∨ (shp d = true ∧ shp e = true) := by
  unfold eqOk at h
  split at h
  · exact .inl ⟨_, _, rfl, rfl⟩
  · exact .inr (Bool.and_eq_true_iff.mp h)
def gEq : G2 := fun s t h => match dat s h, dat t h with
  | some d, some e => if eqOk d e then some (.bool (PyData.eqv d e)) else none
  | _, _ => none
def gNe : G2 := fun s t h => match dat s h, dat t h with
  | some d, some e => if eqOk d e then some (.bool (!PyData.eqv d e)) else none
  | _, _ => none
theorem eqv_str {a b : Str} : PyData.eqv (.str a) (.str b) = decide (V.str a = V.str b) := by
  by_cases h : a = b
  · subst h; simp [PyData.eqv]
  · have : ¬ V.str a = V.str b := fun z => h (V.str.inj z)
    simp [PyData.eqv, h, this]
theorem dat_str {K : PySem.W.Frag} {ρ : Fps} {h : Hs} {H : Hp} {s : Sl} {v : V} {a : Str} (r : SlV K C ρ H v s) (e : dat s h = some (.str a)) : v = .str a := by
  cases s with
  | val d =>
    have e' : some d = some (.str a) := e
    cases e'
    cases (show Rp K H (Mo C ρ) v (.str a) from r)
    rfl
  | loc n =>
    have e' : (match h[n]? with
      | some (.lst ds) => some (PyData.list ds)
      | _ => none) = some (.str a) := e
    split at e' <;> cases e'
  | inn n i =>
    have e' : (inn? h n i).map PyData.list = some (.str a) := e
    cases q : inn? h n i <;> (rw [q] at e'; cases e')
  | exn x => cases (show (none : Option PyData) = some (.str a) from e)
theorem o_eq (hu : X.A.units + 64 < cLine) : OpR X (compareOp .Eq) (rd2 X.K C gEq) := by
  intro pins st σ H x y v u Q I rx ry ⟨ρ, h, s, t, d, S, r1, r2, e, k⟩
  unfold gEq at e
  split at e
  · rename_i a b e1 e2
    split at e
    · rename_i c
      cases e
      rcases eqOk_or c with ⟨p, q, rfl, rfl⟩ | ⟨c1, c2⟩
      · refine op_eq pins st σ H x y v u Q I rx ry ?_
        rw [dat_str r1 e1, dat_str r2 e2]
        refine ⟨rfl, ?_⟩
        rw [← eqv_str]
        exact k _ H (Ex.refl _ _ _) S (.bl _)
      · exact op_eqD hu pins st σ H x y v u Q I rx ry ⟨a, b, dat_rel S r1 e1 (shp_nd c1), dat_rel S r2 e2 (shp_nd c2), c1, c2, k _ H (Ex.refl _ _ _) S (.bl _)⟩
    · cases e
  · cases e
theorem o_ne (hu : X.A.units + 64 < cLine) : OpR X (compareOp .NotEq) (rd2 X.K C gNe) := by
  intro pins st σ H x y v u Q I rx ry ⟨ρ, h, s, t, d, S, r1, r2, e, k⟩
  unfold gNe at e
  split at e
  · rename_i a b e1 e2
    split at e
    · rename_i c
      cases e
      rcases eqOk_or c with ⟨p, q, rfl, rfl⟩ | ⟨c1, c2⟩
      · refine op_ne pins st σ H x y v u Q I rx ry ?_
        rw [dat_str r1 e1, dat_str r2 e2]
        refine ⟨rfl, ?_⟩
        rw [← eqv_str]
        exact k _ H (Ex.refl _ _ _) S (.bl _)
      · exact op_neD hu pins st σ H x y v u Q I rx ry ⟨a, b, dat_rel S r1 e1 (shp_nd c1), dat_rel S r2 e2 (shp_nd c2), c1, c2, k _ H (Ex.refl _ _ _) S (.bl _)⟩
    · cases e
  · cases e
def isN : Sl → Bool
  | .val .none => true
  | _ => false
def gIsN : G2 := fun s t _ => match t with
  | .val .none => some (.bool (isN s))
  | _ => none
def gNotN : G2 := fun s t _ => match t with
  | .val .none => some (.bool (!isN s))
  | _ => none
def gIx : G2 := fun s t h => match items s h, t with
  | some ds, .val (.int i) => atI ds i
  | _, _ => none
theorem atI_rel {K : PySem.W.Frag} {H : Hp} {M : Ms} {vs : List V} {ds : List PyData} {i : Int} {d : PyData} (r : RpAll K H M vs ds) (e : atI ds i = some d) : ∃ v, atI vs i = some v ∧ Rp K H M v d := by
  unfold atI at e ⊢
  rw [r.length]
  cases q : ixN ds.length i with
  | none => rw [q] at e; cases e
  | some j =>
    rw [q] at e
    exact r.get e
theorem i_ix : IxR X (rd2 X.K C gIx) := IxR.imp ix_seq fun x y H Q ⟨ρ, h, s, t, d, S, r1, r2, e, k⟩ => by
  unfold gIx at e
  split at e
  · rename_i ds i e1
    cases (show Rp X.K H (Mo C ρ) y (.int i) from r2)
    obtain ⟨a, vs, rfl, sq, ra⟩ := items_rel S r1 e1
    obtain ⟨v, ev, rv⟩ := atI_rel ra e
    have fin := k v H (Ex.refl _ _ _) S rv
    rcases sq with sq | sq
    · exact .inl ⟨a, vs, i, v, rfl, rfl, sq, ev, fin⟩
    · exact .inr (.inl ⟨a, vs, i, v, rfl, rfl, sq, ev, fin⟩)
  · cases e
end
def gLen : GL := fun ss h => match ss with
  | [s] => (items s h).map fun ds => .int ds.length
  | _ => none
def bools? : List PyData → Option (List Bool)
  | [] => some []
  | .bool b :: r => (bools? r).map (b :: ·)
  | _ :: _ => none
def ints? : List PyData → Option (List Int)
  | [] => some []
  | .int b :: r => (ints? r).map (b :: ·)
  | _ :: _ => none
/-- the items of a list alone -/
def litems (s : Sl) (h : Hs) : Option (List PyData) := match s with
  | .val (.list ds) => some ds
  | .loc n => match h[n]? with
    | some (.lst ds) => some ds
    | _ => none
  | .inn n i => inn? h n i
  | _ => none
def gAll : GL := fun ss h => match ss with
  | [s] => ((litems s h).bind bools?).map fun bs => .bool (bs.all id)
  | _ => none
def gAny : GL := fun ss h => match ss with
  | [s] => ((litems s h).bind bools?).map fun bs => .bool (bs.any id)
  | _ => none
def gSum : GL := fun ss h => match ss with
  | [s] => ((litems s h).bind ints?).map fun bs => .int bs.sum
  | _ => none
def gInt : GL := fun ss _ => match ss with
  | [.val (.int i)] => some (.int i)
  | [.val (.bool b)] => some (.int (if b then 1 else 0))
  | _ => none
def gMax2 : GL := fun ss _ => match ss with
  | [.val (.int i), .val (.int j)] => some (.int (if j > i then j else i))
  | _ => none
def gMin2 : GL := fun ss _ => match ss with
  | [.val (.int i), .val (.int j)] => some (.int (if j < i then j else i))
  | _ => none
def gTuple : GL := fun ss h => match ss with
  | [s] => (items s h).map fun ds => .tuple ds
  | _ => none
def gList : GL := fun ss h => match ss with
  | [s] => (items s h).map fun ds => .list ds
  | _ => none
section
variable {K : PySem.W.Frag} {C : Fc} {ρ : Fps} {H : Hp} {h : Hs} {v : V} {s : Sl}
theorem litems_rel {ds : List PyData} (S : SimH K C ρ h H) (r : SlV K C ρ H v s) (e : litems s h = some ds) : ∃ a vs, v = .ref a ∧ SqL K H a vs ∧ RpAll K H (Mo C ρ) vs ds := by
  unfold litems at e
  split at e
  · cases e
    cases (show Rp K H (Mo C ρ) v (.list ds) from r) with
    | lst q a => exact ⟨_, _, rfl, q.sq, a⟩
  · rename_i n
    obtain ⟨fp, a, e1, e2, rfl⟩ := r
    split at e
    · rename_i ds' e3
      cases e
      obtain ⟨_, vs, q, a⟩ := S.lst e1 e2 e3
      exact ⟨_, vs, rfl, SqL.of q, a⟩
    · cases e
  · rename_i n i
    obtain ⟨fp, a, e1, e2, rfl⟩ := r
    obtain ⟨vs, q, ra⟩ := S.inn e1 e2 e
    exact ⟨_, vs, rfl, SqL.of q, ra⟩
  · cases e
theorem bools_rel : ∀ {M : Ms} {vs : List V} {ds : List PyData} {bs : List Bool}, RpAll K H M vs ds → bools? ds = some bs → vs = bs.map V.bl
  | _, _, [], bs, .nil, e => by
    have e' : some ([] : List Bool) = some bs := e
    cases e'; rfl
  | _, _, .bool b :: r, bs, .cons q t, e => by
    cases q
    have e' : (bools? r).map (b :: ·) = some bs := e
    cases z : bools? r with
    | none => rw [z] at e'; cases e'
    | some cs =>
      rw [z] at e'
      cases e'
      rw [bools_rel t z]; rfl
  | _, _, .none :: _, _, .cons _ _, e => by cases (show none = some _ from e)
  | _, _, .int _ :: _, _, .cons _ _, e => by cases (show none = some _ from e)
  | _, _, .str _ :: _, _, .cons _ _, e => by cases (show none = some _ from e)
  | _, _, .list _ :: _, _, .cons _ _, e => by cases (show none = some _ from e)
  | _, _, .tuple _ :: _, _, .cons _ _, e => by cases (show none = some _ from e)
  | _, _, .dict _ :: _, _, .cons _ _, e => by cases (show none = some _ from e)
theorem SlVs.one {xs : List V} (r : SlVs K C ρ H xs [s]) : ∃ x, xs = [x] ∧ SlV K C ρ H x s := by
  cases r with
  | cons a b => cases b; exact ⟨_, rfl, a⟩
theorem SlVs.two {t : Sl} {xs : List V} (r : SlVs K C ρ H xs [s, t]) : ∃ x y, xs = [x, y] ∧ SlV K C ρ H x s ∧ SlV K C ρ H y t := by
  cases r with
  | cons a b =>
    cases b with
    | cons c d => cases d; exact ⟨_, _, rfl, a, c⟩
end
section
variable {X : Cx} {C : Fc}
theorem map_some {α β : Type} {o : Option α} {f : α → β} {b : β} (e : o.map f = some b) : ∃ a, o = some a ∧ b = f a := by
  cases o with
  | none => cases e
  | some a => cases e; exact ⟨a, rfl, rfl⟩
theorem bind_some {α β : Type} {o : Option α} {f : α → Option β} {b : β} (e : o.bind f = some b) : ∃ a, o = some a ∧ f a = some b := by
  cases o with
  | none => cases e
  | some a => exact ⟨a, rfl, e⟩
theorem c_len : CallR X (.builtin "len") (rdC X.K C gLen) := CallR.imp call_len_seq fun xs H Q ⟨ρ, h, ss, d, S, r, e, k⟩ => by
  unfold gLen at e
  split at e
  · obtain ⟨x, rfl, ro⟩ := r.one
    obtain ⟨ds, e1, rfl⟩ := map_some e
    obtain ⟨a, vs, rfl, sq, ra⟩ := items_rel S ro e1
    refine ⟨a, vs, rfl, sq, ?_⟩
    rw [ra.length]
    exact k _ H (Ex.refl _ _ _) S (.int _)
  · cases e
theorem c_all (hc : X.calm = true) : CallR X (.builtin "all") (rdC X.K C gAll) := CallR.imp (cr_all hc) fun xs H Q ⟨ρ, h, ss, d, S, r, e, k⟩ => by
  unfold gAll at e
  split at e
  · obtain ⟨x, rfl, ro⟩ := r.one
    obtain ⟨bs, e1, rfl⟩ := map_some e
    obtain ⟨ds, e2, e3⟩ := bind_some e1
    obtain ⟨a, vs, rfl, sq, ra⟩ := litems_rel S ro e2
    have ev := bools_rel ra e3
    subst ev
    exact ⟨a, bs, rfl, sq, k _ H (Ex.refl _ _ _) S (.bl _)⟩
  · cases e
theorem c_int : CallR X (.type "int") (rdC X.K C gInt) := CallR.imp call_int1 fun xs H Q ⟨ρ, h, ss, d, S, r, e, k⟩ => by
  unfold gInt at e
  split at e
  · rename_i i
    obtain ⟨x, rfl, ro⟩ := r.one
    cases (show Rp X.K H (Mo C ρ) x (.int i) from ro)
    cases e
    exact .inl ⟨i, rfl, k _ H (Ex.refl _ _ _) S (.int _)⟩
  · rename_i b
    obtain ⟨x, rfl, ro⟩ := r.one
    cases (show Rp X.K H (Mo C ρ) x (.bool b) from ro)
    cases e
    exact .inr ⟨b, rfl, k _ H (Ex.refl _ _ _) S (.int _)⟩
  · cases e
theorem c_max2 (hc : X.calm = true) : CallR X (.builtin "max") (rdC X.K C gMax2) := CallR.imp (call_max2 hc) fun xs H Q ⟨ρ, h, ss, d, S, r, e, k⟩ => by
  unfold gMax2 at e
  split at e
  · rename_i i j
    obtain ⟨x, y, rfl, r1, r2⟩ := r.two
    cases (show Rp X.K H (Mo C ρ) x (.int i) from r1)
    cases (show Rp X.K H (Mo C ρ) y (.int j) from r2)
    cases e
    exact ⟨i, j, rfl, k _ H (Ex.refl _ _ _) S (.int _)⟩
  · cases e
theorem c_min2 (hc : X.calm = true) : CallR X (.builtin "min") (rdC X.K C gMin2) := CallR.imp (call_min2 hc) fun xs H Q ⟨ρ, h, ss, d, S, r, e, k⟩ => by
  unfold gMin2 at e
  split at e
  · rename_i i j
    obtain ⟨x, y, rfl, r1, r2⟩ := r.two
    cases (show Rp X.K H (Mo C ρ) x (.int i) from r1)
    cases (show Rp X.K H (Mo C ρ) y (.int j) from r2)
    cases e
    exact ⟨i, j, rfl, k _ H (Ex.refl _ _ _) S (.int _)⟩
  · cases e
theorem c_tuple : CallR X (.type "tuple") (rdC X.K C gTuple) := CallR.imp call_tuple_of fun xs H Q ⟨ρ, h, ss, d, S, r, e, k⟩ => by
  unfold gTuple at e
  split at e
  · rename_i s
    obtain ⟨x, rfl, ro⟩ := r.one
    obtain ⟨ds, e1, rfl⟩ := map_some e
    by_cases ht : s = .val (.tuple ds)
    · subst ht
      have r' : Rp X.K H (Mo C ρ) x (.tuple ds) := ro
      cases r' with
      | tup q a => exact ⟨_, _, rfl, .inr ⟨q.sq, k _ H (Ex.refl _ _ _) S (.tup q a)⟩⟩
    · have e2 : litems s h = some ds := by
        unfold items at e1
        unfold litems
        split at e1
        · exact e1
        · cases e1; exact absurd rfl ht
        · exact e1
        · exact e1
        · cases e1
      obtain ⟨a, vs, rfl, sq, ra⟩ := litems_rel S ro e2
      exact ⟨a, vs, rfl, .inl ⟨sq, fun p hp => k _ _ (Ex.laid S hp) (S.laid hp) (Rp.newTup S hp ra)⟩⟩
  · cases e
variable {Wx : WX} {x : Str} {p pos : Pos} {e : Expr} {es : List Expr} {f : Av} {id T : String} {g : GL}
theorem fe_callB (hc : CallR X (.builtin id) (rdC X.K C g)) (hg : Gl X x) (hm : X.mg x = none) (hv : bootBuiltins x = some (.builtin id)) (ha : FA X C Wx (e :: es) f) (hn : x ≠ "__name__" := by decide) (hdb : (x == ("__debug__" : Str)) = false := by decide)
    (he : starEach (e :: es) X.env = (false, eval e X.env) :: starEach es X.env := by rfl) (hpl : (backTo pos (starEach es X.env)).any (·.1) = false := by rfl) : FE X C Wx (.Call (.Name x p) (e :: es) [] pos) (cCB g f) :=
  PE.imp (pe_callB hc hg hm hv ha hn hdb he hpl) fun _ _ _ => rd.cb
theorem fe_callTy (hc : CallR X (.type T) (rdC X.K C g)) (hg : Gl X x) (hm : X.mg x = none) (hv : bootBuiltins x = some (.type T)) (ha : FA X C Wx (e :: es) f) (hn : x ≠ "__name__" := by decide) (hdb : (x == ("__debug__" : Str)) = false := by decide)
    (he : starEach (e :: es) X.env = (false, eval e X.env) :: starEach es X.env := by rfl) (hpl : (backTo pos (starEach es X.env)).any (·.1) = false := by rfl) : FE X C Wx (.Call (.Name x p) (e :: es) [] pos) (cCB g f) :=
  PE.imp (pe_callTy hc hg hm hv ha hn hdb he hpl) fun _ _ _ => rd.cb
end
def tyN (s : Sl) (h : Hs) : Option String := match s with
  | .val .none => some "NoneType"
  | .val (.bool _) => some "bool"
  | .val (.int _) => some "int"
  | .val (.str _) => some "str"
  | .val (.list _) => some "list"
  | .val (.tuple _) => some "tuple"
  | .val (.dict _) => some "dict"
  | .loc n => match h[n]? with
    | some (.lst _) => some "list"
    | _ => none
  | .inn n i => (inn? h n i).map fun _ => "list"
  | .exn _ => none
def isaN (c t : String) : Bool := (t == c) || (c == "int" && t == "bool")
def gIsa (c : String) : Sl → Hs → Option PyData := fun s h => (tyN s h).map fun t => .bool (isaN c t)
/-- a type, or a function -/
inductive TyF (K : PySem.W.Frag) (H : Hp) : V → Value → Prop where
  | x {v : V} {t : Value} (h : TyX K H v t) : TyF K H v t
  | fn {a c : Addr} {q x : Str} {n : Nat} (h : H a = some (LamFn a c q x n)) : TyF K H (.ref a) (.type "function")
def ClL : List String := ["int", "bool", "tuple", "str", "list"]
def TyL : List String := ["NoneType", "bool", "int", "str", "list", "tuple", "dict"]
def KtB (t t2 : String) : Prop := ∀ c ∈ ClL, kitB t2 c = some (isaN c t)
theorem ktB_of {t : String} (h : t ∈ TyL) : KtB t t := by
  have all : ∀ t ∈ TyL, ∀ c ∈ ClL, kitB t c = some (isaN c t) := by decide +kernel
  exact all t h
theorem ktB_fn : KtB "dict" "function" := by
  have all : ∀ c ∈ ClL, kitB "function" c = some (isaN c "dict") := by decide +kernel
  exact all
theorem tyN_rel {K : PySem.W.Frag} {C : Fc} {ρ : Fps} {H : Hp} {h : Hs} {v : V} {s : Sl} {t : String} (S : SimH K C ρ h H) (r : SlV K C ρ H v s) (e : tyN s h = some t) : ∃ t2, TyF K H v (.type t2) ∧ KtB t t2 := by
  have ok : ∀ {t : String}, TyX K H v (.type t) → t ∈ TyL → ∃ t2, TyF K H v (.type t2) ∧ KtB t t2 := fun h m => ⟨_, .x h, ktB_of m⟩
  unfold tyN at e
  split at e
  · cases e; cases (show Rp K H (Mo C ρ) v .none from r); exact ok (.base .non) (by decide)
  · cases e; rename_i b; cases (show Rp K H (Mo C ρ) v (.bool b) from r); exact ok (.base (.bl _)) (by decide)
  · cases e; rename_i b; cases (show Rp K H (Mo C ρ) v (.int b) from r); exact ok (.base (.int _)) (by decide)
  · cases e; rename_i b; cases (show Rp K H (Mo C ρ) v (.str b) from r); exact ok (.base (.str _)) (by decide)
  · cases e; rename_i b
    cases (show Rp K H (Mo C ρ) v (.list b) from r) with
    | lst q a =>
      rcases q with ⟨q | ⟨o, q⟩, _⟩ | ⟨its, n, q, _⟩
      · exact ok (.base (.lst q)) (by decide)
      · exact ok (.base (.frz q)) (by decide)
      · exact ok (.kList q rfl) (by decide)
  · cases e; rename_i b
    cases (show Rp K H (Mo C ρ) v (.tuple b) from r) with
    | tup q a =>
      rcases q with ⟨q | ⟨o, q⟩, _⟩ | ⟨o, its, n, q, c, _⟩
      · exact ok (.base (.tup q)) (by decide)
      · exact ok (.fTuple q) (by decide)
      · exact ok (.kTuple q c) (by decide)
  · cases e; rename_i b
    cases (show Rp K H (Mo C ρ) v (.dict b) from r) with
    | dct ps q eb =>
      cases ps with
      | dic ps => exact ok (.base (.dK q.1)) (by decide)
      | lam x n =>
        obtain ⟨c, qq, h1, _⟩ := q
        exact ⟨_, .fn h1, ktB_fn⟩
  · rename_i n
    obtain ⟨fp, a, e1, e2, rfl⟩ := r
    split at e
    · rename_i ds' e3
      cases e
      obtain ⟨_, vs, q, a⟩ := S.lst e1 e2 e3
      exact ok (.base (.lst q)) (by decide)
    · cases e
  · rename_i n i
    obtain ⟨fp, a, e1, e2, rfl⟩ := r
    cases q0 : inn? h n i with
    | none => rw [q0] at e; cases e
    | some ds =>
      rw [q0] at e
      cases e
      obtain ⟨vs, q, ra⟩ := S.inn e1 e2 q0
      exact ok (t := "list") (.base (.lst q)) (by decide)
  · cases e
/-- isinstance(x, c), x perhaps a function -/
def rIsiF (K : PySem.W.Frag) : List V → Hp → VK → Prop := fun xs H Q => ∃ (x c : V) (t u : Value) (b : Bool), xs = [x, c] ∧ ClsV c u ∧ TyF K H x t ∧ PySem.W.kitOne K t u = some b ∧ Q (.bl b) H
theorem kit_ofF {X : Cx} {pins : List (Addr × Obj)} {σ : St} {H : Hp} {s : Shared} {x : V} {u t : Value} (I : Inv X pins σ H s) (rx : RelV x u) (ty : TyF X.K H x t) : ∃ P : Heap → Prop, PySem.W.KitX X.K u t P ∧ P s.heap ∧ u ≠ .builtin "__main__.__loader__#opaque" := by
  cases ty with
  | x h => exact kit_of I rx h
  | @fn a c q x n h =>
    cases (show u = Value.ref a from rx)
    have ok := I.hok a _ h
    obtain ⟨⟨_, _, _, _, _, _, hg⟩, _⟩ := ok
    exact ⟨_, fnC_kit, ⟨_, hg, rfl⟩, fun z => nomatch z⟩
theorem call_isiF {X : Cx} : CallR X (.builtin "isinstance") (rIsiF X.K) := by
  intro pins s σ H xs us Q I r h
  obtain ⟨x, c, t, u, b, rfl, k, ty, e, q⟩ := h
  obtain ⟨u1, u2, rfl, r1, r2⟩ := vals2 r
  have e2 := k.eq r2
  subst e2
  obtain ⟨P, Z, p, hx⟩ := kit_ofF I r1 ty
  exact PySem.W.kia_one Z I.kIn p e hx fun tk => ⟨.bl b, H, I.tok tk, rfl, q⟩
section
variable {X : Cx} {C : Fc} {Wx : WX} {x y : Str} {p q pos : Pos} {e : Expr} {f : Ev} {c : String}
/-- isinstance(e, c), c a built-in class by its name -/
theorem fe_isa (hcl : c ∈ ["int", "bool", "tuple", "str", "list"]) (hg : Gl X "isinstance") (hm : X.mg "isinstance" = none) (hg2 : Gl X y) (hm2 : X.mg y = none) (hv2 : bootBuiltins y = some (.type c)) (ha : FE X C Wx e f)
    (hn2 : y ≠ "__name__" := by decide) (hd2 : (y == ("__debug__" : Str)) = false := by decide)
    (hs1 : starEach (e :: [.Name y q]) X.env = (false, eval e X.env) :: starEach [.Name y q] X.env := by rfl) (hs2 : starEach (Expr.Name y q :: []) X.env = (false, eval (.Name y q) X.env) :: starEach [] X.env := by rfl)
    (hpl : (backTo pos (starEach [Expr.Name y q] X.env)).any (·.1) = false := by rfl) : FE X C Wx (.Call (.Name "isinstance" p) [e, .Name y q] [] pos) (cUn (gIsa c) f) := by
  have hA : PA X [e, .Name y q] (tCons (rd X.K X.mg C Wx (relE X.K C) f) (tCons (tC (.ty c)) tNil)) := pa_cons ha (pa_cons (pe_bltn (v := .ty c) hg2 hm2 hv2 rfl hn2 hd2) pa_nil hs2) hs1
  refine PE.imp (pe_callB call_isiF hg hm (by decide +kernel) hA (by decide) (by decide) hs1 hpl) fun σ H Q pp => ?_
  refine rd.bind (f := f) (g := fun s env h => .give (gIsa c s h) h) pp fun ρ1 env h1 s v H1 S1 E1 r1 P1 => ?_
  obtain ⟨d, e1, k⟩ := P1.given
  obtain ⟨t, e2, rfl⟩ := map_some e1
  obtain ⟨t2, r3, r4⟩ := tyN_rel S1 r1 e2
  exact ⟨v, .ty c, .type t2, .type c, isaN c t, rfl, .ty c, r3, kit_ty (r4 c hcl), k _ H1 (Ex.refl _ _ _) S1 (.bl _)⟩
end
def oNone : En → Hs → Rz (Option Int) := fun _ h => .ok none h
def oSome (f : Ev) : En → Hs → Rz (Option Int) := fun env h => (f env h).bind fun s h => match s with
  | .val (.int i) => .ok (some i) h
  | _ => .bad
def cutD (ds : List PyData) (lo hi : Option Int) : List PyData := (ds.drop (HT.sIx ds.length 0 lo)).take (HT.sIx ds.length ds.length hi - HT.sIx ds.length 0 lo)
def gCut (s : Sl) (lo hi : Option Int) (h : Hs) : Option PyData := match s with
  | .val (.tuple ds) => some (.tuple (cutD ds lo hi))
  | .val (.list ds) => some (.list (cutD ds lo hi))
  | .loc n => match h[n]? with
    | some (.lst ds) => some (.list (cutD ds lo hi))
    | _ => none
  | _ => none
def eSl (f : Ev) (lo hi : En → Hs → Rz (Option Int)) : Ev := fun env h => (f env h).bind fun s h => (lo env h).bind fun l h => (hi env h).bind fun u h => .give (gCut s l u h) h
section
variable {X : Cx} {C : Fc} {Wx : WX} {e : Expr} {f : Ev}
theorem fo_none : FO X C Wx none oNone := PO.imp po_none fun σ H Q ⟨ρ, env, h, S, E, P⟩ => P ρ none H (Ex.refl _ _ _) S rfl
theorem fo_some (ha : FE X C Wx e f) : FO X C Wx (some e) (oSome f) := PO.imp (po_some ha) fun σ H Q p => by
  refine rd.bind (f := f) (g := fun s env h => match s with
    | .val (.int i) => (.ok (some i) h : Rz (Option Int))
    | _ => .bad) p fun ρ1 env h1 s v H1 S1 E1 r1 P1 => ?_
  cases s with
  | loc n => exact P1.elim
  | inn n i => exact P1.elim
  | exn x => exact P1.elim
  | val d =>
    cases d with
    | int i =>
      cases (show Rp X.K H1 (Mo C ρ1) v (.int i) from r1)
      exact ⟨i, rfl, P1 ρ1 (some i) H1 (Ex.refl _ _ _) S1 rfl⟩
    | _ => exact P1.elim
theorem cut_rel {K : PySem.W.Frag} {H : Hp} {M : Ms} {vs : List V} {ds : List PyData} {lo hi : Option Int} (r : RpAll K H M vs ds) : RpAll K H M (cutV vs lo hi) (cutD ds lo hi) := by
  unfold cutV cutD
  rw [r.length]
  exact (r.drop _).take _
theorem cut_whole (ds : List PyData) (lo hi : Option Int) (h : HT.sIx ds.length 0 lo = 0 ∧ HT.sIx ds.length ds.length hi = ds.length) : cutD ds lo hi = ds := by
  unfold cutD
  rw [h.1, h.2]
  simp
def rSlD (K : PySem.W.Frag) (C : Fc) : V → Option Int → Option Int → Hp → VK → Prop := fun x lo hi H Q => ∃ ρ h s d, SimH K C ρ h H ∧ SlV K C ρ H x s ∧ gCut s lo hi h = some d ∧
  ∀ v H', Ex C ρ H ρ H' → SimH K C ρ h H' → Rp K H' (Mo C ρ) v d → Q v H'
theorem s_cut : SlR X (rSlD X.K C) := by
  intro pins s σ H x v vl vu lo hi sl Q I rx hs pl pu q
  refine (sl_tupA.or sl_list) pins s σ H x v vl vu lo hi sl Q I rx hs pl pu ?_
  obtain ⟨ρ, h, a, d, S, r, e, k⟩ := q
  unfold gCut at e
  split at e
  · rename_i ds
    cases e
    cases (show Rp X.K H (Mo C ρ) x (.tuple ds) from r) with
    | tup q ra =>
      refine .inl ⟨_, _, rfl, q.sq, fun w => k _ H (Ex.refl _ _ _) S ?_, fun w p hp => k _ _ (Ex.laid S hp) (S.laid hp) (Rp.newTup S hp (cut_rel ra))⟩
      rw [cut_whole ds lo hi (by rw [← ra.length]; exact w)]
      exact .tup q ra
  · rename_i ds
    cases e
    cases (show Rp X.K H (Mo C ρ) x (.list ds) from r) with
    | lst q ra => exact .inr ⟨_, _, rfl, q.sq, fun p hp => k _ _ (Ex.laid S hp) (S.laid hp) (Rp.newLst S hp (cut_rel ra))⟩
  · rename_i n
    obtain ⟨fp, a, e1, e2, rfl⟩ := r
    split at e
    · rename_i ds e3
      cases e
      obtain ⟨_, vs, q, ra⟩ := S.lst e1 e2 e3
      exact .inr ⟨a, vs, rfl, SqL.of q, fun p hp => k _ _ (Ex.laid S hp) (S.laid hp) (Rp.newLst S hp (cut_rel ra))⟩
    · cases e
  · cases e
theorem fe_slice {lo hi : Option Expr} {fl fh : En → Hs → Rz (Option Int)} {pos p2 : Pos} (he : FE X C Wx e f) (hl : FO X C Wx lo fl) (hu : FO X C Wx hi fh) : FE X C Wx (.Subscript e (.Slice lo hi none p2) pos) (eSl f fl fh) :=
  PE.imp (pe_slice s_cut he hl hu) fun σ H Q p => by
    refine rd.bind (f := f) (g := fun s env h => (fl env h).bind fun l h => (fh env h).bind fun u h => .give (gCut s l u h) h) p fun ρ1 env h1 s x H1 S1 E1 r1 P1 => ?_
    refine rd.of S1 E1 (Po.bind (r := fl env h1) P1 fun ρ2 h2 l y H2 _ x2 S2 r2 P2 => ?_)
    have e2 : y = l := r2
    subst e2
    refine rd.of S2 (E1.ex x2) (Po.bind (r := fh env h2) P2 fun ρ3 h3 u z H3 _ x3 S3 r3 P3 => ?_)
    have e3 : z = u := r3
    subst e3
    obtain ⟨d, e, k⟩ := P3.given
    exact ⟨ρ3, h3, s, d, S3, SlV.ex (x2.trans x3) r1, e, k⟩
end
end FL
namespace FL
open PySem PySem.Spec PyProof.Rows L2
def Rz.fl {α : Type} (r : Rz α) (env : En) (f : α → Hs → Fl) : Fl := match r with
  | .ok a h => f a h
  | .err x h => .err x env h
  | .bad => .bad
def PoS (K : PySem.W.Frag) (mg : Str → Option Value) (C : Fc) (Wx : WX) (D : Ends) (ρ : Fps) (H : Hp) : Fl → Prop
  | .next env' h' => ∀ (ρ' : Fps) (σ' : St) (H' : Hp), Stp (Mo C ρ) H (Mo C ρ') H' → SimH K C ρ' h' H' → EnvOk K C ρ' H' env' σ' → D.nx σ' H'
  | .ret s h' => ∀ (ρ' : Fps) (v : V) (H' : Hp), Stp (Mo C ρ) H (Mo C ρ') H' → SimH K C ρ' h' H' → SlV K C ρ' H' v s → D.rt v H'
  | .brk env' h' => ∀ (ρ' : Fps) (σ' : St) (H' : Hp), Stp (Mo C ρ) H (Mo C ρ') H' → SimH K C ρ' h' H' → EnvOk K C ρ' H' env' σ' → D.bk σ' H'
  | .cont env' h' => ∀ (ρ' : Fps) (σ' : St) (H' : Hp), Stp (Mo C ρ) H (Mo C ρ') H' → SimH K C ρ' h' H' → EnvOk K C ρ' H' env' σ' → D.ct σ' H'
  | .err x env' h' => ∀ (ρ' : Fps) (σ' : St) (H' : Hp) (cls : Value) (d : Option Addr), Stp (Mo C ρ) H (Mo C ρ') H' → SimH K C ρ' h' H' → EnvOk K C ρ' H' env' σ' → XnOk K mg H' (Mo C ρ') x cls d → Wx cls d σ' H'
  | .bad => False
def rdS (K : PySem.W.Frag) (mg : Str → Option Value) (C : Fc) (Wx : WX) (f : Sv) : TS := fun D σ H =>
  ∃ (ρ : Fps) (env : En) (h : Hs), SimH K C ρ h H ∧ EnvOk K C ρ H env σ ∧ PoS K mg C Wx D ρ H (f env h)
abbrev FS (X : Cx) (C : Fc) (Wx : WX) (st : Stmt) (f : Sv) : Prop := PS X st (rdS X.K X.mg C Wx f)
abbrev FSs (X : Cx) (C : Fc) (Wx : WX) (st : List Stmt) (f : Sv) : Prop := PSs X st (rdS X.K X.mg C Wx f)
section
variable {K : PySem.W.Frag} {mg : Str → Option Value} {C : Fc} {Wx : WX} {σ : St} {H : Hp} {D : Ends}
theorem PoS.stp {ρ ρ1 : Fps} {H1 : Hp} {r : Fl} (x : Stp (Mo C ρ) H (Mo C ρ1) H1) (p : PoS K mg C Wx D ρ H r) : PoS K mg C Wx D ρ1 H1 r := by
  cases r with
  | next e h => exact fun ρ' σ' H' s S E => p ρ' σ' H' (x.trans s) S E
  | ret e h => exact fun ρ' σ' H' s S E => p ρ' σ' H' (x.trans s) S E
  | brk e h => exact fun ρ' σ' H' s S E => p ρ' σ' H' (x.trans s) S E
  | cont e h => exact fun ρ' σ' H' s S E => p ρ' σ' H' (x.trans s) S E
  | err y e h => exact fun ρ' σ' H' c d s S E => p ρ' σ' H' c d (x.trans s) S E
  | bad => exact p
/-- an expression at the head of a statement -/
theorem rdS.bind {α β : Type} {r1 : Fps → Hp → β → α → Prop} {f : En → Hs → Rz α} {g : α → En → Hs → Fl} (p : rdS K mg C Wx (fun env h => (f env h).fl env fun a h => g a env h) D σ H) {R : β → Hp → Prop}
    (k : ∀ ρ1 env h1 a b H1, SimH K C ρ1 h1 H1 → EnvOk K C ρ1 H1 env σ → r1 ρ1 H1 b a → PoS K mg C Wx D ρ1 H1 (g a env h1) → R b H1) : rd K mg C Wx r1 f σ H R := by
  obtain ⟨ρ, env, h, S, E, P⟩ := p
  refine ⟨ρ, env, h, S, E, ?_⟩
  have P' : PoS K mg C Wx D ρ H ((f env h).fl env fun a h => g a env h) := P
  cases e : f env h with
  | ok a h1 =>
    intro ρ1 b H1 x S1 q
    rw [e] at P'
    exact k ρ1 env h1 a b H1 S1 (E.ex x) q (PoS.stp (r := g a env h1) x.stp P')
  | err y h1 =>
    rw [e] at P'
    exact fun ρ' H' cls d s S' q => P' ρ' σ H' cls d s.stp S' (E.ex s) q
  | bad => rw [e] at P'; exact P'
end
def sNil : Sv := fun env h => .next env h
def sSeq (f g : Sv) : Sv := fun env h => match f env h with
  | .next e h => g e h
  | r => r
def sExp (f : Ev) : Sv := fun env h => (f env h).fl env fun _ h => .next env h
def sRet (f : Ev) : Sv := fun env h => (f env h).fl env fun s h => .ret s h
def sIf (c : Tv) (f g : Sv) : Sv := fun env h => (c env h).fl env fun b h => if b = true then f env h else g env h
def sSet (i : Nat) (f : Ev) : Sv := fun env h => (f env h).fl env fun s h => .next (env.set i (some s)) h
section
variable {X : Cx} {C : Fc} {Wx : WX} {st : Stmt} {rest : List Stmt} {f g : Sv} {e : Expr} {fe : Ev} {pos : Pos}
theorem fss_nil : FSs X C Wx [] sNil := PSs.imp pss_nil fun D σ H ⟨ρ, env, h, S, E, P⟩ => P ρ σ H (Stp.refl _ _) S E
theorem fss_one (h : FS X C Wx st f) : FSs X C Wx [st] f := pss_one h
theorem fss_cons (h1 : FS X C Wx st f) (h2 : FSs X C Wx rest g) : FSs X C Wx (st :: rest) (sSeq f g) := PSs.imp (pss_cons h1 h2) fun D σ H ⟨ρ, env, h, S, E, P⟩ => by
  refine ⟨ρ, env, h, S, E, ?_⟩
  have P' : PoS X.K X.mg C Wx D ρ H (match f env h with
    | .next e h => g e h
    | r => r) := P
  cases q : f env h with
  | next e h1 =>
    rw [q] at P'
    exact fun ρ' σ' H' s S' E' => ⟨ρ', e, h1, S', E', PoS.stp (r := g e h1) s P'⟩
  | ret _ _ => rw [q] at P'; exact P'
  | brk _ _ => rw [q] at P'; exact P'
  | cont _ _ => rw [q] at P'; exact P'
  | err _ _ _ => rw [q] at P'; exact P'
  | bad => rw [q] at P'; exact P'
theorem fs_exp (he : FE X C Wx e fe) (hs : swapsWith e none pos.line X.env = pure false := by rfl) : FS X C Wx (.Expr e pos) (sExp fe) := PS.imp (ps_expr he hs) fun D σ H p =>
  rdS.bind (f := fe) (g := fun _ env h => .next env h) p fun ρ1 env h1 a b H1 S1 E1 r1 P1 => P1 ρ1 σ H1 (Stp.refl _ _) S1 E1
theorem fs_ret (he : FE X C Wx e fe) : FS X C Wx (.Return (some e) pos) (sRet fe) := PS.imp (ps_ret he) fun D σ H p =>
  rdS.bind (f := fe) (g := fun s env h => .ret s h) p fun ρ1 env h1 a b H1 S1 E1 r1 P1 => P1 ρ1 b H1 (Stp.refl _ _) S1 r1
theorem fs_if {c : Expr} {a b : List Stmt} {tc : Tv} (hc : FT X C Wx c tc) (ha : FSs X C Wx a f) (hb : FSs X C Wx b g) : FS X C Wx (.If c a b pos) (sIf tc f g) := PS.imp (ps_if hc ha hb) fun D σ H p =>
  rdS.bind (f := tc) (g := fun b env h => if b = true then f env h else g env h) p fun ρ1 env h1 a b H1 S1 E1 r1 P1 => by
    have e : b = a := r1
    subst e
    cases b with
    | true => exact ⟨ρ1, env, h1, S1, E1, P1⟩
    | false => exact ⟨ρ1, env, h1, S1, E1, P1⟩
theorem fs_set {i : Nat} {x : Str} {pos' : Pos} (hN : X.N.Nodup) (hi : X.N[i]? = some x) (hx : Loc X.env.scope x) (he : FE X C Wx e fe) (hs : swapsWith e (some (.Name x pos')) pos.line X.env = pure false := by rfl) (hf : X.fn x = true ∨ X.env.scope.names.lookup x = some .local := by first | exact .inl rfl | exact .inr rfl | assumption) :
    FS X C Wx (.Assign [.Name x pos'] e pos) (sSet i fe) := PS.imp (ps_set hN hi hx he hs hf) fun D σ H p =>
  rdS.bind (f := fe) (g := fun s env h => .next (env.set i (some s)) h) p fun ρ1 env h1 a b H1 S1 E1 r1 P1 => P1 ρ1 _ H1 (Stp.refl _ _) S1 (E1.set r1 i)
end
inductive Tg where
  | nm (i : Nat)
  | tp (ts : List Tg)
mutual
def Tg.put : Tg → PyData → En → Option En
  | .nm i, d, env => some (env.set i (some (.val d)))
  | .tp ts, .tuple ds, env => Tg.puts ts ds env
  | .tp _, _, _ => none
def Tg.puts : List Tg → List PyData → En → Option En
  | [], [], env => some env
  | t :: ts, d :: ds, env => match Tg.put t d env with
    | some e => Tg.puts ts ds e
    | none => none
  | _, _, _ => none
def Tg.slots : Tg → List Nat
  | .nm i => [i]
  | .tp ts => Tg.slotss ts
def Tg.slotss : List Tg → List Nat
  | [] => []
  | t :: ts => Tg.slots t ++ Tg.slotss ts
def Tg.rd (K : PySem.W.Frag) : Tg → TG
  | .nm i => gName i
  | .tp ts => gTup K ts.length (Tg.rds K ts)
def Tg.rds (K : PySem.W.Frag) : List Tg → TGs
  | [] => gNil
  | t :: ts => gCons (Tg.rd K t) (Tg.rds K ts)
end
abbrev FG (X : Cx) (e : Expr) (t : Tg) : Prop := PG X e (t.rd X.K)
abbrev FGs (X : Cx) (es : List Expr) (ts : List Tg) : Prop := PGs X es (Tg.rds X.K ts)
section
variable {X : Cx} {pos : Pos}
theorem fg_nm {i : Nat} {x : Str} (hN : X.N.Nodup) (hi : X.N[i]? = some x) (hx : Loc X.env.scope x) (hf : X.fn x = true ∨ X.env.scope.names.lookup x = some .local := by first | exact .inl rfl | exact .inr rfl | assumption) : FG X (.Name x pos) (.nm i) := pg_name hN hi hx hf
theorem fgs_nil : FGs X [] [] := pgs_nil
theorem fgs_cons {e : Expr} {es : List Expr} {t : Tg} {ts : List Tg} (h1 : FG X e t) (h2 : FGs X es ts) (hs : (assignEach (e :: es) X.env).map (·.2) = assign e X.env :: (assignEach es X.env).map (·.2) := by rfl) : FGs X (e :: es) (t :: ts) := pgs_cons h1 h2 hs
theorem fg_tp {es : List Expr} {k : Nat} {ts : List Tg} (hc : X.calm = true) (h : FGs X es ts) (hn : (assignEach es X.env).length = ts.length := by rfl) (hst : (assignEach es X.env).findIdx? (·.1) = none := by rfl) : FG X (.Tuple es k pos) (.tp ts) := pg_tup hc h hn hst
end
theorem wipe_get (σ : St) (k : Nat) : ∀ vs : List Nat, (wipe σ vs)[k]? = if k ∈ vs then (σ[k]?).map (fun _ => none) else σ[k]?
  | [] => by simp [wipe]
  | v :: vs => by
    show ((wipe σ vs).set v none)[k]? = _
    rw [List.getElem?_set]
    by_cases h : v = k
    · subst h
      rw [if_pos rfl, wipe_length, if_pos List.mem_cons_self]
      by_cases hv : v < σ.length
      · rw [if_pos hv, List.getElem?_eq_getElem hv]; rfl
      · rw [if_neg hv, List.getElem?_eq_none (by omega)]; rfl
    · rw [if_neg h, wipe_get σ k vs]
      by_cases hk : k ∈ vs
      · rw [if_pos hk, if_pos (List.mem_cons_of_mem _ hk)]
      · rw [if_neg hk, if_neg (fun z => by
          rcases List.mem_cons.mp z with z | z
          · exact h z.symm
          · exact hk z)]
theorem wipe_set {σ : St} {i : Nat} {o : Option V} {vs : List Nat} (h : i ∈ vs) : wipe (σ.set i o) vs = wipe σ vs := by
  refine List.ext_getElem? fun k => ?_
  rw [wipe_get, wipe_get]
  by_cases hk : k ∈ vs
  · rw [if_pos hk, if_pos hk]
    by_cases e : i = k
    · subst e
      rw [List.getElem?_set, if_pos rfl]
      by_cases hl : i < σ.length
      · rw [if_pos hl, List.getElem?_eq_getElem hl]; rfl
      · rw [if_neg hl, List.getElem?_eq_none (by omega)]
    · rw [List.getElem?_set_ne e]
  · rw [if_neg hk, if_neg hk]
    have : i ≠ k := fun z => hk (z ▸ h)
    rw [List.getElem?_set_ne this]
/-- what a target does to the slots -/
structure Put (K : PySem.W.Frag) (H : Hp) (M : Ms) (sl : List Nat) (env env' : En) (σ σ' : St) : Prop where
  wipe : ∀ vs : List Nat, (∀ i ∈ sl, i ∈ vs) → L2.wipe σ' vs = L2.wipe σ vs
  env : ∀ (C : Fc) (ρ : Fps), M = Mo C ρ → EnvOk K C ρ H env σ → EnvOk K C ρ H env' σ'
mutual
theorem Tg.ok {K : PySem.W.Frag} {H : Hp} {M : Ms} : ∀ (t : Tg) (v : V) (d : PyData) (σ : St) (env env' : En) (Q : St → Hp → Prop), Rp K H M v d → t.put d env = some env' → (∀ σ', Put K H M t.slots env env' σ σ' → Q σ' H) → t.rd K v σ H Q
  | .nm i, v, d, σ, env, env', Q, r, e, k => by
    have e' : some (env.set i (some (.val d))) = some env' := by simpa [Tg.put] using e
    cases e'
    show gName i v σ H Q
    refine k (σ.set i (some v)) ⟨fun vs h => wipe_set (h i (by simp [Tg.slots])), fun C ρ hM E => ?_⟩
    subst hM
    exact E.set (s := .val d) r i
  | .tp ts, v, d, σ, env, env', Q, r, e, k => by
    cases d with
    | tuple ds =>
      have e' : Tg.puts ts ds env = some env' := by simpa [Tg.put] using e
      cases r with
      | tup q ra =>
        have hl : ds.length = ts.length := Tg.puts_len ts ds env env' e'
        exact ⟨_, _, rfl, q.sq, by rw [ra.length]; exact hl, Tg.oks ts _ ds σ env env' Q ra e' fun σ' p => k σ' (by simpa [Tg.slots] using p)⟩
    | none => simp [Tg.put] at e
    | bool _ => simp [Tg.put] at e
    | int _ => simp [Tg.put] at e
    | str _ => simp [Tg.put] at e
    | list _ => simp [Tg.put] at e
    | dict _ => simp [Tg.put] at e
theorem Tg.oks {K : PySem.W.Frag} {H : Hp} {M : Ms} : ∀ (ts : List Tg) (vs : List V) (ds : List PyData) (σ : St) (env env' : En) (Q : St → Hp → Prop), RpAll K H M vs ds → Tg.puts ts ds env = some env' → (∀ σ', Put K H M (Tg.slotss ts) env env' σ σ' → Q σ' H) → Tg.rds K ts vs σ H Q
  | [], _, [], σ, env, env', Q, r, e, k => by
    cases r
    have e' : some env = some env' := by simpa [Tg.puts] using e
    cases e'
    exact ⟨rfl, k σ ⟨fun _ _ => rfl, fun _ _ _ E => E⟩⟩
  | t :: ts, _, d :: ds, σ, env, env', Q, r, e, k => by
    cases r with
    | cons r1 r2 =>
      cases q : Tg.put t d env with
      | none => simp [Tg.puts, q] at e
      | some e1 =>
        have e2 : Tg.puts ts ds e1 = some env' := by simpa [Tg.puts, q] using e
        refine ⟨_, _, rfl, Tg.ok t _ d σ env e1 _ r1 q fun σ1 p1 => Tg.oks ts _ ds σ1 e1 env' Q r2 e2 fun σ2 p2 => k σ2 ⟨fun vs h => ?_, fun C ρ hM E => p2.env C ρ hM (p1.env C ρ hM E)⟩⟩
        rw [p2.wipe vs fun i m => h i (by simp [Tg.slotss, m]), p1.wipe vs fun i m => h i (by simp [Tg.slotss, m])]
  | [], _, _ :: _, _, _, _, _, _, e, _ => by simp [Tg.puts] at e
  | _ :: _, _, [], _, _, _, _, _, e, _ => by simp [Tg.puts] at e
theorem Tg.puts_len : ∀ (ts : List Tg) (ds : List PyData) (env env' : En), Tg.puts ts ds env = some env' → ds.length = ts.length
  | [], [], _, _, _ => rfl
  | t :: ts, d :: ds, env, env', e => by
    cases q : Tg.put t d env with
    | none => simp [Tg.puts, q] at e
    | some e1 =>
      have e2 : Tg.puts ts ds e1 = some env' := by simpa [Tg.puts, q] using e
      rw [List.length_cons, List.length_cons, Tg.puts_len ts ds e1 env' e2]
  | [], _ :: _, _, _, e => by simp [Tg.puts] at e
  | _ :: _, [], _, _, e => by simp [Tg.puts] at e
end
/-- target = value -/
def sAsg (f : Ev) (t : Tg) : Sv := fun env h => (f env h).fl env fun s h => match s with
  | .val d => match t.put d env with
    | some e => .next e h
    | none => .bad
  | _ => .bad
section
variable {X : Cx} {C : Fc} {Wx : WX} {tg e : Expr} {fe : Ev} {t : Tg} {pos : Pos}
theorem fs_asg (he : FE X C Wx e fe) (hg : FG X tg t) (hs : swapsWithSole [tg] e pos.line X.env = pure false := by rfl) (hw : swappedStores [tg] e X.env = pure none := by rfl)
    (h1 : (assignEach [tg] X.env).map (·.2) = [assign tg X.env] := by rfl) : FS X C Wx (.Assign [tg] e pos) (sAsg fe t) := PS.imp (ps_asg he hg hs hw h1) fun D σ H p => by
  refine rdS.bind (f := fe) (g := fun s env h => match s with
    | .val d => match t.put d env with
      | some e => (.next e h : Fl)
      | none => .bad
    | _ => .bad) p fun ρ1 env h1 a b H1 S1 E1 r1 P1 => ?_
  cases a with
  | loc n => exact P1.elim
  | inn n i => exact P1.elim
  | exn x => exact P1.elim
  | val d =>
    cases q : t.put d env with
    | none =>
      have P2 : PoS X.K X.mg C Wx D ρ1 H1 (match t.put d env with
        | some e => (.next e h1 : Fl)
        | none => .bad) := P1
      rw [q] at P2
      exact P2.elim
    | some e1 =>
      have P2 : PoS X.K X.mg C Wx D ρ1 H1 (match t.put d env with
        | some e => (.next e h1 : Fl)
        | none => .bad) := P1
      rw [q] at P2
      exact Tg.ok t b d σ env e1 _ r1 q fun σ' p => P2 ρ1 σ' H1 (Stp.refl _ _) S1 (p.env C ρ1 rfl E1)
/-- a, b = x, y (two local names) -/
def sPar (i j : Nat) (f : Av) : Sv := fun env h => (f env h).fl env fun ss h => match ss with
  | [s, t] => .next ((env.set i (some s)).set j (some t)) h
  | _ => .bad
theorem fs_par {i j : Nat} {x y : Str} {a b : Expr} {f : Av} {px py pt : Pos} {kt k2 pt2} (hc : X.calm = true) (hN : X.N.Nodup) (hi : X.N[i]? = some x) (hj : X.N[j]? = some y) (hij : i ≠ j)
    (hx : X.env.scope.names.lookup x = some .local) (hy : X.env.scope.names.lookup y = some .local) (ha : FA X C Wx [a, b] f)
    (hw : swappedStores [.Tuple [.Name x px, .Name y py] kt pt] (.Tuple [a, b] k2 pt2) X.env = pure (some [x, y]))
    (hs : swapsWithSole [.Tuple [.Name x px, .Name y py] kt pt] (.Tuple [a, b] k2 pt2) pos.line X.env = pure false := by rfl) :
    FS X C Wx (.Assign [.Tuple [.Name x px, .Name y py] kt pt] (.Tuple [a, b] k2 pt2) pos) (sPar i j f) := PS.imp (ps_par hc hN hi hj hij hx hy ha hw hs) fun D σ H p => by
  refine rdS.bind (f := f) (g := fun ss env h => match ss with
    | [s, t] => (.next ((env.set i (some s)).set j (some t)) h : Fl)
    | _ => .bad) p fun ρ1 env h1 a b H1 S1 E1 r1 P1 => ?_
  match a, r1, P1 with
  | [s, t], r1, P1 =>
    obtain ⟨v, w, rfl, rv, rw'⟩ := SlVs.two r1
    exact ⟨v, w, rfl, P1 ρ1 _ H1 (Stp.refl _ _) S1 ((E1.set rv i).set rw' j)⟩
  | [], _, P1 => exact P1.elim
  | [_], _, P1 => exact P1.elim
  | _ :: _ :: _ :: _, _, P1 => exact P1.elim
def sPar3 (i j l : Nat) (f : Av) : Sv := fun env h => (f env h).fl env fun ss h => match ss with
  | [s, t, u] => .next (((env.set i (some s)).set j (some t)).set l (some u)) h
  | _ => .bad
/-- name op= e -/
def sAug (i : Nat) (g : G2) (f : Ev) : Sv := fun env h => match env[i]? with
  | some (some s) => (f env h).fl env fun t h => match g s t h with
    | some d => .next (env.set i (some (.val d))) h
    | none => .bad
  | _ => .bad
theorem fs_aug {i : Nat} {x : Str} {op : Operator} {g : G2} {pos' : Pos} (hN : X.N.Nodup) (hi : X.N[i]? = some x) (hx : Loc X.env.scope x) (he : FE X C Wx e fe) (ho : OpR X (inplaceOp op) (rd2 X.K C g)) (hf : X.fn x = true ∨ X.env.scope.names.lookup x = some .local := by first | exact .inl rfl | exact .inr rfl | assumption) :
    FS X C Wx (.AugAssign (.Name x pos') op e pos) (sAug i g fe) := PS.imp (ps_aug hN hi hx he ho hf) fun D σ H ⟨ρ, env, h, S, E, P⟩ => by
  have P' : PoS X.K X.mg C Wx D ρ H (match env[i]? with
    | some (some s) => (fe env h).fl env fun t h => match g s t h with
      | some d => (.next (env.set i (some (.val d))) h : Fl)
      | none => .bad
    | _ => .bad) := P
  split at P'
  · rename_i s q
    obtain ⟨v, e1, r⟩ := E.at_ i s q
    refine ⟨v, e1, ρ, env, h, S, E, ?_⟩
    cases z : fe env h with
    | bad => rw [z] at P'; exact P'
    | err y h1 =>
      rw [z] at P'
      exact fun ρ' H' cls d s S' q => P' ρ' σ H' cls d s.stp S' (E.ex s) q
    | ok t h1 =>
      rw [z] at P'
      intro ρ1 y H1 x1 S1 r1
      have P2 : PoS X.K X.mg C Wx D ρ H (match g s t h1 with
        | some d => (.next (env.set i (some (.val d))) h1 : Fl)
        | none => .bad) := P'
      cases z2 : g s t h1 with
      | none => rw [z2] at P2; exact P2.elim
      | some d =>
        rw [z2] at P2
        exact ⟨ρ1, h1, s, t, d, S1, SlV.ex x1 r, r1, z2, fun w H2 x2 S2 r2 => P2 ρ1 _ H2 (x1.stp.trans x2.stp) S2 (((E.ex x1).ex x2).set (s := .val d) r2 i)⟩
  · exact P'.elim
theorem io_addI : OpR X (inplaceOp .Add) (rd2 X.K C (gI fAdd)) := o_int iop_add (fun i j d H Q e k => by cases e; exact ⟨i, j, rfl, rfl, k _ (.int _)⟩) (fun i j d e H M M' v r => by cases e; exact sc_int r)
end
end FL
namespace FL
open PySem PySem.Spec PyProof.Rows L2
/-- the iterator gives the items ds, one by one, as long as nothing but M is changed -/
structure Gvs (K : PySem.W.Frag) (J : It) (ds : List PyData) (M : Ms) (H0 : Hp) : Prop where
  go : ∀ (M' : Ms) (H : Hp) (i : Nat) (d : PyData), Stp M H0 M' H → ds[i]? = some d → J.go i H
  yld : ∀ (M' : Ms) (H : Hp) (i : Nat) (d : PyData) (x : V) (H' : Hp), Stp M H0 M' H → ds[i]? = some d → J.yld i H x H' → (H' = H ∧ Rp K H M' x d) ∨ (∃ T vs es, H T = none ∧ H' = upd H T (.tup vs) ∧ x = .ref T ∧ d = .tuple es ∧ RpAll K H M' vs es) ∨ (H' = H ∧ ∃ (b : Addr) (k : List Int), x = .ref b ∧ H b = some (.tup (k.map V.int)) ∧ d = .tuple (k.map .int))
  stop : ∀ (M' : Ms) (H : Hp) (i : Nat), Stp M H0 M' H → ds.length ≤ i → J.stop i H
abbrev relI (K : PySem.W.Frag) (C : Fc) : Fps → Hp → It → List PyData → Prop := fun ρ H J ds => Gvs K J ds (Mo C ρ) H
abbrev FI (X : Cx) (C : Fc) (Wx : WX) (tg iter : Expr) (f : En → Hs → Rz (List PyData)) : Prop := PI X tg iter (rd X.K X.mg C Wx (relI X.K C) f)
theorem PI.imp {X : Cx} {tg e : Expr} {t t' : TI} (h : PI X tg e t) (i : ∀ σ H Q, t' σ H Q → t σ H Q) : PI X tg e t' := ⟨fun pins s σ H Q I q => h.run pins s σ H Q I (i σ H Q q)⟩
theorem PI.two {X : Cx} {tg e : Expr} {t t' u : TI} (h : PI X tg e t) (h' : PI X tg e t') (i : ∀ σ H Q, u σ H Q → t σ H Q ∨ t' σ H Q) : PI X tg e u := ⟨fun pins s σ H Q I q => by
  rcases i σ H Q q with z | z
  · exact h.run pins s σ H Q I z
  · exact h'.run pins s σ H Q I z⟩
theorem Gvs.step {K : PySem.W.Frag} {C : Fc} {J : It} {ds : List PyData} {M : Ms} {H0 : Hp} (G : Gvs K J ds M H0) {ρ : Fps} {h : Hs} {H H' : Hp} {i : Nat} {d : PyData} {x : V} (st : Stp M H0 (Mo C ρ) H) (S : SimH K C ρ h H) (e : ds[i]? = some d) (y : J.yld i H x H') :
    SimH K C ρ h H' ∧ Ex C ρ H ρ H' ∧ Rp K H' (Mo C ρ) x d := by
  rcases G.yld _ H i d x H' st e y with ⟨rfl, r⟩ | ⟨T, vs, es, hT, rfl, rfl, rfl, r⟩ | ⟨rfl, b, k, rfl, hb, rfl⟩
  · exact ⟨S, Ex.refl _ _ _, r⟩
  · exact ⟨S.laid hT, Ex.laid S hT, Rp.newTup S hT r⟩
  · refine ⟨S, Ex.refl _ _ _, .tup (.inl ⟨.inl hb, S.free hb⟩) ?_⟩
    clear hb y e
    induction k with
    | nil => exact .nil
    | cons i k ih => exact .cons (.int i) ih
/-- the items of a list or tuple that is data -/
def srcSeq (f : Ev) : En → Hs → Rz (List PyData) := fun env h => (f env h).bind fun s h => match s with
  | .val (.list ds) => .ok ds h
  | .val (.tuple ds) => .ok ds h
  | _ => .bad
section
variable {X : Cx} {C : Fc} {Wx : WX} {tg l : Expr} {f : Ev}
theorem gvs_list {K : PySem.W.Frag} {H : Hp} {M : Ms} {a : Addr} {xs : List V} {ds : List PyData} (q : QL K H M a xs) (r : RpAll K H M xs ds) : Gvs K (Itl K a) ds M H where
  go := fun M' H' i d s e => by
    obtain ⟨v, ev, _⟩ := r.get e
    exact ⟨xs, v, (q.stp s).sq, ev⟩
  yld := fun M' H' i d x H'' s e y => by
    obtain ⟨rfl, hy⟩ := y
    obtain ⟨v, ev, rv⟩ := r.get e
    have := hy xs (q.stp s).sq
    rw [ev] at this; cases this
    exact .inl ⟨rfl, rv.stp s⟩
  stop := fun M' H' i s hl => ⟨xs, (q.stp s).sq, by rw [r.length]; exact hl⟩
theorem gvs_tup {K : PySem.W.Frag} {H : Hp} {M : Ms} {a : Addr} {xs : List V} {ds : List PyData} (q : QT K H M a xs) (r : RpAll K H M xs ds) : Gvs K (Itt K a) ds M H where
  go := fun M' H' i d s e => by
    obtain ⟨v, ev, _⟩ := r.get e
    exact ⟨xs, v, (q.stp s).sq, ev⟩
  yld := fun M' H' i d x H'' s e y => by
    obtain ⟨rfl, hy⟩ := y
    obtain ⟨v, ev, rv⟩ := r.get e
    have := hy xs (q.stp s).sq
    rw [ev] at this; cases this
    exact .inl ⟨rfl, rv.stp s⟩
  stop := fun M' H' i s hl => ⟨xs, (q.stp s).sq, by rw [r.length]; exact hl⟩
theorem fi_seq (ha : FE X C Wx l f) : FI X C Wx tg l (srcSeq f) := by
  refine PI.two (pi_list ha) (pi_tup ha) fun σ H R ⟨ρ, env, h, S, E, P⟩ => ?_
  have P' : Po X.K X.mg C Wx σ ρ H (relI X.K C) ((f env h).bind fun s h => match s with
    | .val (.list ds) => (.ok ds h : Rz (List PyData))
    | .val (.tuple ds) => .ok ds h
    | _ => .bad) R := P
  cases e : f env h with
  | bad => rw [e] at P'; exact P'.elim
  | err y h1 => rw [e] at P'; exact .inl ⟨ρ, env, h, S, E, by rw [e]; exact P'⟩
  | ok s h1 =>
    rw [e] at P'
    match s, P' with
    | .val (.list ds), P' =>
      refine .inl ⟨ρ, env, h, S, E, ?_⟩
      rw [e]
      intro ρ1 v H1 x1 S1 r1
      cases (show Rp X.K H1 (Mo C ρ1) v (.list ds) from r1) with
      | lst q ra => exact ⟨_, rfl, ⟨_, q.sq⟩, P' ρ1 _ H1 x1 S1 (gvs_list q ra)⟩
    | .val (.tuple ds), P' =>
      refine .inr ⟨ρ, env, h, S, E, ?_⟩
      rw [e]
      intro ρ1 v H1 x1 S1 r1
      cases (show Rp X.K H1 (Mo C ρ1) v (.tuple ds) from r1) with
      | tup q ra => exact ⟨_, rfl, ⟨_, q.sq⟩, P' ρ1 _ H1 x1 S1 (gvs_tup q ra)⟩
    | .val .none, P' => exact P'.elim
    | .val (.bool _), P' => exact P'.elim
    | .val (.int _), P' => exact P'.elim
    | .val (.str _), P' => exact P'.elim
    | .val (.dict _), P' => exact P'.elim
    | .loc _, P' => exact P'.elim
    | .inn _ _, P' => exact P'.elim
    | .exn _, P' => exact P'.elim
/-- range(n), range(a, b) -/
def upTo (lo : Int) (n : Nat) : List PyData := (List.range n).map fun (k : Nat) => .int (lo + (k : Int))
def rngOk (i : Int) : Bool := decide (-(2 ^ 62) ≤ i ∧ i < 2 ^ 62)
def srcRng1 (f : Av) : En → Hs → Rz (List PyData) := fun env h => (f env h).bind fun ss h => match ss with
  | [.val (.int j)] => if rngOk j then .ok (upTo 0 j.toNat) h else .bad
  | _ => .bad
theorem upTo_get {lo : Int} {n i : Nat} {d : PyData} (e : (upTo lo n)[i]? = some d) : i < n ∧ d = .int (lo + i) := by
  unfold upTo at e
  rw [List.getElem?_map] at e
  by_cases h : i < n
  · rw [List.getElem?_range h] at e
    cases e
    exact ⟨h, rfl⟩
  · rw [List.getElem?_eq_none (by rw [List.length_range]; omega)] at e
    cases e
theorem upTo_len (lo : Int) (n : Nat) : (upTo lo n).length = n := by unfold upTo; simp
theorem gvs_rng {K : PySem.W.Frag} {H : Hp} {M : Ms} (lo : Int) (n : Nat) : Gvs K (Itr lo n) (upTo lo n) M H where
  go := fun M' H' i d s e => (upTo_get e).1
  yld := fun M' H' i d x H'' s e y => by
    obtain ⟨rfl, rfl⟩ := y
    obtain ⟨_, rfl⟩ := upTo_get e
    exact .inl ⟨rfl, .int _⟩
  stop := fun M' H' i s hl => by
    rw [upTo_len] at hl
    exact hl
variable {a b : Expr} {fa : Av} {p pos : Pos}
theorem fi_rng1 (hg : Gl X "range") (hm : X.mg "range" = none) (ha : FA X C Wx [a] fa) (hs : starEach [a] X.env = [(false, eval a X.env)] := by rfl) : FI X C Wx tg (.Call (.Name "range" p) [a] [] pos) (srcRng1 fa) := PI.imp (pi_range1 hg hm ha hs) fun σ H R pp => by
  refine rd.bind (f := fa) (g := fun ss env h => match ss with
    | [.val (.int j)] => if rngOk j then (.ok (upTo 0 j.toNat) h : Rz (List PyData)) else .bad
    | _ => .bad) pp fun ρ1 env h1 ss vs H1 S1 E1 r1 P1 => ?_
  split at P1
  · rename_i j
    obtain ⟨x, rfl, rx⟩ := SlVs.one r1
    cases (show Rp X.K H1 (Mo C ρ1) x (.int j) from rx)
    split at P1
    · rename_i c
      have c' := of_decide_eq_true c
      exact ⟨j, rfl, c'.1, c'.2, P1 ρ1 _ H1 (Ex.refl _ _ _) S1 (gvs_rng 0 j.toNat)⟩
    · exact P1.elim
  · exact P1.elim
end
def cutE (n : Nat) (env : En) : En := env.map fun s => match s with
  | some (.loc k) => if k < n then some (.loc k) else none
  | some (.inn k i) => if k < n then some (.inn k i) else none
  | s => s
theorem cutE_ok {K : PySem.W.Frag} {C : Fc} {ρ : Fps} {H : Hp} {env : En} {σ : St} {n : Nat} (E : EnvOk K C ρ H env σ) : EnvOk K C (ρ.take n) H (cutE n env) σ := by
  refine ⟨by rw [← E.len]; unfold cutE; simp, fun i s e => ?_⟩
  unfold cutE at e
  rw [List.getElem?_map] at e
  cases q : env[i]? with
  | none => rw [q] at e; cases e
  | some o =>
    rw [q] at e
    cases o with
    | none => cases (show some (none : Slot) = some (some s) from e)
    | some t =>
      obtain ⟨v, e1, r⟩ := E.at_ i t q
      cases t with
      | val d =>
        have e' : some (some (Sl.val d)) = some (some s) := e
        cases e'
        exact ⟨v, e1, Rp.fewer (fun _ => Mo.take) r⟩
      | loc k =>
        have e' : some (if k < n then some (Sl.loc k) else none) = some (some s) := e
        split at e'
        · rename_i hk
          cases e'
          obtain ⟨fp, a, e2, e3, e4⟩ := r
          exact ⟨v, e1, fp, a, by rw [List.getElem?_take, if_pos hk]; exact e2, e3, e4⟩
        · cases e'
      | inn k j =>
        have e' : some (if k < n then some (Sl.inn k j) else none) = some (some s) := e
        split at e'
        · rename_i hk
          cases e'
          obtain ⟨fp, a, e2, e3, e4⟩ := r
          exact ⟨v, e1, fp, a, by rw [List.getElem?_take, if_pos hk]; exact e2, e3, e4⟩
        · cases e'
      | exn x =>
        have e' : some (some (Sl.exn x)) = some (some s) := e
        cases e'
        exact ⟨v, e1, r⟩
def loopF (t : Tg) (body : Sv) (n : Nat) : List PyData → En → Hs → Fl
  | [], env, h => .next env h
  | d :: ds, env, h => match t.put d env with
    | none => .bad
    | some e1 => match body e1 h with
      | .next e h => loopF t body n ds (cutE n e) (h.take n)
      | .cont e h => loopF t body n ds (cutE n e) (h.take n)
      | .brk e h => .next (cutE n e) (h.take n)
      | r => r
def sFor (src : En → Hs → Rz (List PyData)) (t : Tg) (body : Sv) : Sv := fun env h => (src env h).fl env fun ds h => loopF t body h.length ds env h
section
variable {X : Cx} {C : Fc} {Wx : WX} {tg iter c : Expr} {body : List Stmt} {src : En → Hs → Rz (List PyData)} {t : Tg} {fb : Sv} {tc : Tv} {pos : Pos}
theorem fs_for (hp : PassesOwn (model X.prog X.w) X.A X.env X.xe) (hc : X.calm = true) (hi : FI X C Wx tg iter src) (hg : FG X tg t) (hb : FSs X C Wx body fb)
    (hs : ∀ x, foldedSetIterable iter X.env x = pure x := by intro _; rfl) : FS X C Wx (.For tg iter body [] pos) (sFor src t fb) := PS.imp (ps_for hp hc hi hg hb hs) fun D σ H p => by
  refine rdS.bind (f := src) (g := fun ds env h => loopF t fb h.length ds env h) p fun ρ1 env1 h1 ds J H1 S1 E1 G P1 => ?_
  have hW0 : C.W.length ≤ h1.length := S1.wlen
  refine ⟨fun i m σ2 H2 => m = ds.length - i ∧ ∃ ρ2 env2 h2, SimH X.K C ρ2 h2 H2 ∧ EnvOk X.K C ρ2 H2 env2 σ2 ∧ Stp (Mo C ρ1) H1 (Mo C ρ2) H2 ∧ PoS X.K X.mg C Wx D ρ2 H2 (loopF t fb h1.length (ds.drop i) env2 h2),
    ⟨ds.length - 0, rfl, ρ1, env1, h1, S1, E1, Stp.refl _ _, P1⟩, fun i m σ2 H2 hW => ?_⟩
  obtain ⟨hm, ρ2, env2, h2, S2, E2, st, P2⟩ := hW
  by_cases hi' : i < ds.length
  · have ed : ds.drop i = ds[i] :: ds.drop (i + 1) := List.drop_eq_getElem_cons hi'
    have ei : ds[i]? = some ds[i] := List.getElem?_eq_getElem hi'
    rw [ed] at P2
    refine .inr ⟨G.go _ H2 i _ st ei, fun σ' H' => ∃ ρ3 env3 h3, SimH X.K C ρ3 h3 H' ∧ EnvOk X.K C ρ3 H' env3 σ' ∧ Stp (Mo C ρ1) H1 (Mo C ρ3) H' ∧ PoS X.K X.mg C Wx D ρ3 H' (loopF t fb h1.length (ds.drop (i + 1)) env3 h3), fun σ' H' hN => ?_, fun x H' y => ?_⟩
    · obtain ⟨ρ3, env3, h3, S3, E3, st3, P3⟩ := hN
      exact ⟨ds.length - (i + 1), by omega, rfl, ρ3, env3, h3, S3, E3, st3, P3⟩
    · obtain ⟨S3, x3, r3⟩ := G.step st S2 ei y
      have P3 : PoS X.K X.mg C Wx D ρ2 H2 (match t.put ds[i] env2 with
        | none => .bad
        | some e1 => match fb e1 h2 with
          | .next e h => loopF t fb h1.length (ds.drop (i + 1)) (cutE h1.length e) (h.take h1.length)
          | .cont e h => loopF t fb h1.length (ds.drop (i + 1)) (cutE h1.length e) (h.take h1.length)
          | .brk e h => .next (cutE h1.length e) (h.take h1.length)
          | r => r) := P2
      cases q : t.put ds[i] env2 with
      | none => rw [q] at P3; exact P3.elim
      | some e1 =>
        rw [q] at P3
        dsimp only at P3
        refine Tg.ok t x ds[i] σ2 env2 e1 _ r3 q fun σ3 pt => ⟨ρ2, e1, h2, S3, pt.env C ρ2 rfl (E2.ex x3), ?_⟩
        cases z : fb e1 h2 with
        | next e h =>
          rw [z] at P3
          exact fun ρ' σ' H'' s S E => ⟨ρ'.take h1.length, _, _, S.take _ hW0, cutE_ok E, (((st.trans x3.stp).trans s).trans (Stp.take _)), PoS.stp (r := loopF t fb h1.length (ds.drop (i + 1)) (cutE h1.length e) (h.take h1.length)) ((x3.stp.trans s).trans (Stp.take _)) P3⟩
        | cont e h =>
          rw [z] at P3
          exact fun ρ' σ' H'' s S E => ⟨ρ'.take h1.length, _, _, S.take _ hW0, cutE_ok E, (((st.trans x3.stp).trans s).trans (Stp.take _)), PoS.stp (r := loopF t fb h1.length (ds.drop (i + 1)) (cutE h1.length e) (h.take h1.length)) ((x3.stp.trans s).trans (Stp.take _)) P3⟩
        | brk e h =>
          rw [z] at P3
          exact fun ρ' σ' H'' s S E => P3 (ρ'.take h1.length) σ' H'' ((x3.stp.trans s).trans (Stp.take _)) (S.take _ hW0) (cutE_ok E)
        | ret s h => rw [z] at P3; exact PoS.stp (r := .ret s h) (D := D) x3.stp P3
        | err y e h => rw [z] at P3; exact PoS.stp (r := .err y e h) (D := D) x3.stp P3
        | bad => rw [z] at P3; exact P3.elim
  · have ed : ds.drop i = [] := List.drop_eq_nil_of_le (by omega)
    rw [ed] at P2
    exact .inl ⟨G.stop _ H2 i st (by omega), P2 ρ2 σ2 H2 (Stp.refl _ _) S2 E2⟩
def loopW (c : Tv) (body : Sv) (n : Nat) : Nat → En → Hs → Fl
  | 0, _, _ => .bad
  | k + 1, env, h => (c env h).fl env fun b h => if b = true then (match body env h with
      | .next e h => loopW c body n k (cutE n e) (h.take n)
      | .cont e h => loopW c body n k (cutE n e) (h.take n)
      | .brk e h => .next (cutE n e) (h.take n)
      | r => r) else .next env h
def sWhile (k : Nat) (c : Tv) (body : Sv) : Sv := fun env h => loopW c body h.length k env h
theorem fs_while (k : Nat) (hp : PassesOwn (model X.prog X.w) X.A X.env X.xe) (hc : FT X C Wx c tc) (hb : FSs X C Wx body fb) : FS X C Wx (.While c body [] pos) (sWhile k tc fb) := PS.imp (ps_while hp hc hb) fun D σ H ⟨ρ0, env0, h0, S0, E0, P0⟩ => by
  have hW0 : C.W.length ≤ h0.length := S0.wlen
  refine ⟨fun m σ2 H2 => ∃ ρ2 env2 h2, SimH X.K C ρ2 h2 H2 ∧ EnvOk X.K C ρ2 H2 env2 σ2 ∧ PoS X.K X.mg C Wx D ρ2 H2 (loopW tc fb h0.length m env2 h2), ⟨k, ρ0, env0, h0, S0, E0, P0⟩, fun m σ2 H2 hW => ?_⟩
  obtain ⟨ρ2, env2, h2, S2, E2, P2⟩ := hW
  cases m with
  | zero => exact P2.elim
  | succ m =>
    refine rdS.bind (Wx := Wx) (mg := X.mg) (D := D) (f := tc) (g := fun b env h => if b = true then (match fb env h with
      | .next e h => loopW tc fb h0.length m (cutE h0.length e) (h.take h0.length)
      | .cont e h => loopW tc fb h0.length m (cutE h0.length e) (h.take h0.length)
      | .brk e h => .next (cutE h0.length e) (h.take h0.length)
      | r => r) else .next env h) ⟨ρ2, env2, h2, S2, E2, P2⟩ fun ρ3 env3 h3 b b' H3 S3 E3 r3 P3 => ?_
    have e : b' = b := r3
    subst e
    cases b' with
    | false =>
      rw [if_neg Bool.false_ne_true] at P3 ⊢
      exact P3 ρ3 σ2 H3 (Stp.refl _ _) S3 E3
    | true =>
      rw [if_pos rfl] at P3 ⊢
      refine ⟨fun σ' H' => ∃ ρ' env' h', SimH X.K C ρ' h' H' ∧ EnvOk X.K C ρ' H' env' σ' ∧ PoS X.K X.mg C Wx D ρ' H' (loopW tc fb h0.length m env' h'), fun σ' H' hN => ⟨m, by omega, hN⟩, ρ3, env3, h3, S3, E3, ?_⟩
      cases z : fb env3 h3 with
      | next e h =>
        rw [z] at P3
        exact fun ρ' σ' H'' s S E => ⟨ρ'.take h0.length, _, _, S.take _ hW0, cutE_ok E, PoS.stp (r := loopW tc fb h0.length m (cutE h0.length e) (h.take h0.length)) (s.trans (Stp.take _)) P3⟩
      | cont e h =>
        rw [z] at P3
        exact fun ρ' σ' H'' s S E => ⟨ρ'.take h0.length, _, _, S.take _ hW0, cutE_ok E, PoS.stp (r := loopW tc fb h0.length m (cutE h0.length e) (h.take h0.length)) (s.trans (Stp.take _)) P3⟩
      | brk e h =>
        rw [z] at P3
        exact fun ρ' σ' H'' s S E => P3 (ρ'.take h0.length) σ' H'' (s.trans (Stp.take _)) (S.take _ hW0) (cutE_ok E)
      | ret s h => rw [z] at P3; exact P3
      | err y e h => rw [z] at P3; exact P3
      | bad => rw [z] at P3; exact P3.elim
end
abbrev GM := Sl → List Sl → Hs → Option (PyData × Hs)
def rdM (K : PySem.W.Frag) (C : Fc) (m : GM) : V → List V → Hp → VK → Prop := fun x xs H Q => ∃ ρ h s ss d h', SimH K C ρ h H ∧ SlV K C ρ H x s ∧ SlVs K C ρ H xs ss ∧ m s ss h = some (d, h') ∧
  ∀ v H', Ex C ρ H ρ H' → SimH K C ρ h' H' → Rp K H' (Mo C ρ) v d → Q v H'
def eMt (m : GM) (f : Ev) (fa : Av) : Ev := fun env h => (f env h).bind fun s h => if (litems s h).isSome = true then (fa env h).bind fun ss h => match m s ss h with
  | some (d, h') => .ok (.val d) h'
  | none => .bad else .bad
def mAppend : GM := fun s ss h => match s, ss with
  | .loc n, [.val d] => match h[n]? with
    | some (.lst ds) => if ds.length < 16777216 then some (.none, h.set n (.lst (ds ++ [d]))) else none
    | _ => none
  | _, _ => none
theorem MtR.imp {X : Cx} {id : String} {r r' : V → List V → Hp → VK → Prop} (h : MtR X id r) (i : ∀ x xs H Q, r' x xs H Q → r x xs H Q) : MtR X id r' := fun pins s σ H x xs v us Q I rx rs q => h pins s σ H x xs v us Q I rx rs (i _ _ _ _ q)
section
variable {X : Cx} {C : Fc} {Wx : WX} {o e : Expr} {es : List Expr} {f : Ev} {fa : Av} {name : Str} {apos cpos : Pos} {id : String} {m : GM}
theorem m_append : MtR X "list.append" (rdM X.K C mAppend) := MtR.imp mt_append fun x xs H Q ⟨ρ, h, s, ss, d, h', S, r1, r2, e, k⟩ => by
  unfold mAppend at e
  split at e
  · rename_i n d0
    split at e
    · rename_i ds e3
      split at e
      · rename_i hl
        cases e
        obtain ⟨fp, a, e1, e2, rfl⟩ := r1
        obtain ⟨y, rfl, ry⟩ := SlVs.one r2
        obtain ⟨e1', vs, q, ra⟩ := S.lst e1 e2 e3
        have W := S.write (ob := .lst (ds ++ [d0])) (o := .lst (vs ++ [y])) e1' ⟨a, _, rfl, upd_same, ?_⟩
        · exact ⟨a, vs, y, rfl, rfl, q, by rw [ra.length, sizeLine_eq]; exact hl, k .non _ W.2 W.1 .non⟩
        · have st : Stp (Mo C ρ) H (Mo C ρ) (upd H a (.lst (vs ++ [y]))) := ⟨keepE fun b u z nm => by
            have : b ≠ a := fun w => nm (w ▸ .inl (flat_at e1' (by simp)))
            rw [upd_ne this]; exact z, fun _ mm => .inl mm⟩
          exact (ra.stp st).append (.cons (Rp.stp st ry) .nil)
      · cases e
    · cases e
  · cases e
theorem fe_mt (slot : PySem.Slot "list" name id) (hty : typeOf (.builtin id) = pure (.type "method_descriptor")) (hm : MtR X id (rdM X.K C m)) (ho : FE X C Wx o f) (ha : FA X C Wx (e :: es) fa)
    (hbase : attributeBase o name X.env (eval o X.env) = eval o X.env := by rfl)
    (hfew : ((backTo cpos (starEach (e :: es) X.env)).all (fun x => !x.1) && (backToKw cpos (keywordEach [] X.env)).all (fun x => x.1.isSome)
      && decide ((e :: es).length + ([] : List Keyword).length + (if ([] : List Keyword).isEmpty then 0 else 1) < 30)) = true := by rfl)
    (hline : (apos.endLine == cpos.line) = true := by rfl) (hs : starEach (e :: es) X.env = (false, eval e X.env) :: starEach es X.env := by rfl) (hplain : (backTo cpos (starEach es X.env)).any (·.1) = false := by rfl) :
    FE X C Wx (.Call (.Attribute o name apos) (e :: es) [] cpos) (eMt m f fa) := PE.imp (pe_bm PySem.F.plainAttrs_list slot hty hm ho ha hbase hfew hline hs hplain) fun σ H Q p => by
  refine rd.bind (f := f) (g := fun s env h => if (litems s h).isSome = true then (fa env h).bind fun ss h => match m s ss h with
    | some (d, h') => (.ok (.val d) h' : Rz Sl)
    | none => .bad else .bad) p fun ρ1 env h1 s x H1 S1 E1 r1 P1 => ?_
  split at P1
  · rename_i hl
    obtain ⟨ds, el⟩ := Option.isSome_iff_exists.mp hl
    obtain ⟨a, vs, rfl, sq, ra⟩ := litems_rel S1 r1 el
    refine ⟨.inl ⟨rfl, _, sq⟩, rd.of S1 E1 (Po.bind (r := fa env h1) P1 fun ρ2 h2 ss xs H2 _ x2 S2 r2 P2 => ?_)⟩
    cases q : m s ss h2 with
    | none => rw [q] at P2; exact P2.elim
    | some dh =>
      obtain ⟨d, h'⟩ := dh
      rw [q] at P2
      exact ⟨ρ2, h2, s, ss, d, h', S2, SlV.ex x2 r1, r2, q, fun v H' x S r => P2 ρ2 v H' x S r⟩
  · exact P1.elim
def putAt (s t u : Sl) (h : Hs) : Option Hs := match s, t, u with
  | .loc n, .val (.int i), .val d => match h[n]? with
    | some (.lst ds) => match ixN ds.length i with
      | some j => some (h.set n (.lst (ds.set j d)))
      | none => none
    | _ => none
  | _, _, _ => none
def sPut (fo fi fe : Ev) : Sv := fun env h => (fe env h).fl env fun u h => (fo env h).fl env fun s h => (fi env h).fl env fun t h => match putAt s t u h with
  | some h' => .next env h'
  | none => .bad
theorem put_rel {K : PySem.W.Frag} {ρ : Fps} {h h' : Hs} {H : Hp} {s t u : Sl} {x y v : V} {Q : Hp → Prop} (S : SimH K C ρ h H) (r1 : SlV K C ρ H x s) (r2 : SlV K C ρ H y t) (r3 : SlV K C ρ H v u) (e : putAt s t u h = some h')
    (k : ∀ H', Ex C ρ H ρ H' → SimH K C ρ h' H' → Q H') : rSetL x y v H Q := by
  unfold putAt at e
  split at e
  · rename_i n i d
    split at e
    · rename_i ds e3
      split at e
      · rename_i j e4
        cases e
        obtain ⟨fp, a, e1, e2, rfl⟩ := r1
        cases (show Rp K H (Mo C ρ) y (.int i) from r2)
        obtain ⟨e1', vs, q, ra⟩ := S.lst e1 e2 e3
        have st : Stp (Mo C ρ) H (Mo C ρ) (upd H a (.lst (vs.set j v))) := ⟨keepE fun b w z nm => by
          have : b ≠ a := fun w => nm (w ▸ .inl (flat_at e1' (by simp)))
          rw [upd_ne this]; exact z, fun _ mm => .inl mm⟩
        have W := S.write (ob := .lst (ds.set j d)) (o := .lst (vs.set j v)) e1' ⟨a, _, rfl, upd_same, (ra.stp st).set (Rp.stp st r3) j⟩
        exact ⟨a, vs, i, j, rfl, rfl, q, by rw [ra.length]; exact e4, k _ W.2 W.1⟩
      · cases e
    · cases e
  · cases e
variable {i : Expr} {fo fi fe : Ev} {pos tpos : Pos}
theorem fs_put (ho : FE X C Wx o fo) (hi : FE X C Wx i fi) (he : FE X C Wx e fe)
    (ha : ∀ v, assign (.Subscript o i tpos) X.env v = (do
      let ov ← holding [v] (eval o X.env)
      let iv ← holding [v, ov] (eval i X.env)
      standAt tpos
      holding [v, ov, iv] (setItem ov iv v)
      release [v, ov, iv] []) := by intro _; rfl)
    (hs : swapsWithSole [.Subscript o i tpos] e pos.line X.env = pure false := by rfl) (hw : swappedStores [.Subscript o i tpos] e X.env = pure none := by rfl)
    (h1 : (assignEach [.Subscript o i tpos] X.env).map (·.2) = [assign (.Subscript o i tpos) X.env] := by rfl) : FS X C Wx (.Assign [.Subscript o i tpos] e pos) (sPut fo fi fe) :=
  PS.imp (ps_asg he (pg_sub ho hi set_list ha) hs hw h1) fun D σ H p => by
    refine rdS.bind (f := fe) (g := fun u env h => (fo env h).fl env fun s h => (fi env h).fl env fun t h => match putAt s t u h with
      | some h' => (.next env h' : Fl)
      | none => .bad) p fun ρ1 env h1 u v H1 S1 E1 r1 P1 => ?_
    refine rd.of S1 E1 ?_
    have P1' : PoS X.K X.mg C Wx D ρ1 H1 ((fo env h1).fl env fun s h => (fi env h).fl env fun t h => match putAt s t u h with
      | some h' => (.next env h' : Fl)
      | none => .bad) := P1
    cases q1 : fo env h1 with
    | bad => rw [q1] at P1'; exact P1'
    | err y h2 => rw [q1] at P1'; exact fun ρ' H' cls d s S' q => P1' ρ' σ H' cls d s.stp S' (E1.ex s) q
    | ok s h2 =>
      rw [q1] at P1'
      intro ρ2 x H2 x2 S2 r2
      refine rd.of S2 (E1.ex x2) ?_
      have P2 : PoS X.K X.mg C Wx D ρ1 H1 ((fi env h2).fl env fun t h => match putAt s t u h with
        | some h' => (.next env h' : Fl)
        | none => .bad) := P1'
      cases q2 : fi env h2 with
      | bad => rw [q2] at P2; exact P2
      | err y h3 => rw [q2] at P2; exact fun ρ' H' cls d s S' q => P2 ρ' σ H' cls d (x2.stp.trans s.stp) S' ((E1.ex x2).ex s) q
      | ok t h3 =>
        rw [q2] at P2
        intro ρ3 y H3 x3 S3 r3
        have P3 : PoS X.K X.mg C Wx D ρ1 H1 (match putAt s t u h3 with
          | some h' => (.next env h' : Fl)
          | none => .bad) := P2
        cases q3 : putAt s t u h3 with
        | none => rw [q3] at P3; exact P3.elim
        | some h4 =>
          rw [q3] at P3
          exact put_rel S3 (SlV.ex x3 r2) r3 (SlV.ex (x2.trans x3) r1) q3 fun H4 x4 S4 => P3 ρ3 σ H4 ((x2.stp.trans x3.stp).trans x4.stp) S4 (((E1.ex x2).ex x3).ex x4)
def lix (s t : Sl) (h : Hs) : Option PyData := match litems s h, t with
  | some ds, .val (.int i) => atI ds i
  | _, _ => none
def sAugIx (g : G2) (fo fi fe : Ev) : Sv := fun env h => (fo env h).fl env fun s h => (fi env h).fl env fun t h => match lix s t h with
  | some x => (fe env h).fl env fun u h => match g (.val x) u h with
    | some d => match putAt s t (.val d) h with
      | some h' => .next env h'
      | none => .bad
    | none => .bad
  | none => .bad
end
end FL
namespace FL
open PySem PySem.Spec PyProof.Rows L2
def wipeE (env : En) : List Nat → En
  | [] => env
  | v :: vs => (wipeE env vs).set v none
theorem wipeE_length (env : En) : ∀ vs : List Nat, (wipeE env vs).length = env.length
  | [] => rfl
  | v :: vs => by show ((wipeE env vs).set v none).length = _; rw [List.length_set, wipeE_length env vs]
theorem wipeE_get (env : En) (k : Nat) (s : Sl) : ∀ vs : List Nat, (wipeE env vs)[k]? = some (some s) → env[k]? = some (some s) ∧ k ∉ vs
  | [], e => ⟨e, by simp⟩
  | v :: vs, e => by
    have e' : ((wipeE env vs).set v none)[k]? = some (some s) := e
    by_cases h : v = k
    · subst h
      rw [List.getElem?_set, if_pos rfl] at e'
      split at e' <;> cases e'
    · rw [List.getElem?_set_ne h] at e'
      obtain ⟨a, b⟩ := wipeE_get env k s vs e'
      exact ⟨a, fun z => by
        rcases List.mem_cons.mp z with z | z
        · exact h z.symm
        · exact b z⟩
theorem wipe_wipe (σ : St) (vs : List Nat) : wipe (wipe σ vs) vs = wipe σ vs := by
  refine List.ext_getElem? fun k => ?_
  rw [wipe_get, wipe_get]
  by_cases hk : k ∈ vs
  · rw [if_pos hk, if_pos hk]
    cases σ[k]? <;> rfl
  · rw [if_neg hk]
section
variable {K : PySem.W.Frag} {C C' : Fc} {ρ : Fps} {H : Hp} {env : En} {σ : St}
theorem EnvOk.wiped (E : EnvOk K C ρ H env σ) (vs : List Nat) : EnvOk K C ρ H (wipeE env vs) (wipe σ vs) := by
  refine ⟨by rw [wipeE_length, wipe_length]; exact E.len, fun i s e => ?_⟩
  obtain ⟨e1, n⟩ := wipeE_get env i s vs e
  obtain ⟨v, e2, r⟩ := E.at_ i s e1
  exact ⟨v, by rw [wipe_get, if_neg n]; exact e2, r⟩
theorem SlV.cong (hb : C.Bar = C'.Bar) (hx : C.exc = C'.exc) {v : V} {s : Sl} (r : SlV K C ρ H v s) : SlV K C' ρ H v s := by
  have e : Mo C ρ = Mo C' ρ := by unfold Mo; rw [hb]
  cases s with
  | val d =>
    have r' : Rp K H (Mo C ρ) v d := r
    rw [e] at r'
    exact r'
  | loc n => exact r
  | inn n i => exact r
  | exn x =>
    obtain ⟨a, e1, e2⟩ := r
    exact ⟨a, by rw [← hx]; exact e1, e2⟩
theorem EnvOk.cong (hb : C.Bar = C'.Bar) (hx : C.exc = C'.exc) (E : EnvOk K C ρ H env σ) : EnvOk K C' ρ H env σ := ⟨E.len, fun i s e => let ⟨v, a, b⟩ := E.at_ i s e; ⟨v, a, SlV.cong hb hx b⟩⟩
theorem Ex.cong (hb : C.Bar = C'.Bar) {ρ1 : Fps} {H1 : Hp} (x : Ex C ρ H ρ1 H1) : Ex C' ρ H ρ1 H1 := by
  have e : ∀ ρ, Mo C ρ = Mo C' ρ := fun ρ => by unfold Mo; rw [hb]
  refine ⟨?_, x.root⟩
  rw [← e, ← e]
  exact x.stp
end
def tTrue : Tv := fun _ h => .ok true h
abbrev FTs (X : Cx) (C : Fc) (Wx : WX) (ifs : List Expr) (f : Tv) : Prop := PTs X ifs (rd X.K X.mg C Wx relT f)
theorem fts_nil {X : Cx} {C : Fc} {Wx : WX} : FTs X C Wx [] tTrue := ⟨fun pins s σ H Q I ⟨ρ, env, h, S, E, P⟩ => pts_nil.run pins s σ H Q I (P ρ true H (Ex.refl _ _ _) S rfl)⟩
theorem fts_one {X : Cx} {C : Fc} {Wx : WX} {c : Expr} {f : Tv} (h : FT X C Wx c f) : FTs X C Wx [c] f := pts_one h
abbrev W0 : WX := fun _ _ _ _ => False
def compL (t : Tg) (tt : Tv) (fe : Ev) (env : En) : List PyData → List PyData → Hs → Rz (List PyData)
  | [], acc, h => .ok acc h
  | d :: ds, acc, h => match t.put d env with
    | none => .bad
    | some e1 => match tt e1 h with
      | .ok true h => match fe e1 h with
        | .ok (.val x) h => if acc.length < 16777216 then compL t tt fe env ds (acc ++ [x]) h else .bad
        | _ => .bad
      | .ok false h => compL t tt fe env ds acc h
      | _ => .bad
def eComp (src : En → Hs → Rz (List PyData)) (t : Tg) (vs : List Nat) (tt : Tv) (fe : Ev) : Ev := fun env h => (src env h).bind fun ds h => (compL t tt fe (wipeE env vs) ds [] h).bind fun out h => .ok (.val (.list out)) h
/-- .. the list one of the def's own -/
def eCompN (src : En → Hs → Rz (List PyData)) (t : Tg) (vs : List Nat) (tt : Tv) (fe : Ev) : Ev := fun env h => (src env h).bind fun ds h => (compL t tt fe (wipeE env vs) ds [] h).bind fun out h => .ok (.loc h.length) (h ++ [.lst out])
section
variable {K : PySem.W.Frag} {mg : Str → Option Value} {C : Fc} {Wx : WX} {σ : St} {H : Hp}
/-- what stands between two turns of a comprehension -/
structure Mid (K : PySem.W.Frag) (C : Fc) (D : Addr) (ρ1 : Fps) (H1 : Hp) (env : En) (σ : St) (acc : List PyData) (ρ : Fps) (h : Hs) (H : Hp) (av : List V) : Prop where
  S : SimH K (C.plus D) ρ h H
  E : EnvOk K (C.plus D) ρ H env σ
  st : Stp (Mo C ρ1) H1 (Mo (C.plus D) ρ) H
  root : ∀ (n : Nat) (fp : List Addr), ρ1[n]? = some fp → ∃ fp' : List Addr, ρ[n]? = some fp' ∧ fp <+: fp'
  at_ : H D = some (.lst av)
  all : RpAll K H (Mo (C.plus D) ρ) av acc
theorem Mid.ex {D : Addr} {ρ1 ρ : Fps} {H1 H : Hp} {env : En} {acc : List PyData} {h : Hs} {av : List V} (M : Mid K C D ρ1 H1 env σ acc ρ h H av) : Ex C ρ1 H1 ρ H :=
  ⟨⟨M.st.keepK, fun b m => M.st.new b (Mo.unplus m)⟩, M.root⟩
theorem Mid.step {D : Addr} {ρ1 ρ ρ2 : Fps} {H1 H H2 : Hp} {env : En} {acc : List PyData} {h h2 : Hs} {av : List V} (M : Mid K C D ρ1 H1 env σ acc ρ h H av) (S2 : SimH K ((C.plus D).sub ρ H) ρ2 h2 H2) (x : Ex ((C.plus D).sub ρ H) ρ H ρ2 H2) :
    Mid K C D ρ1 H1 env σ acc ρ2 h2 H2 av := by
  have x' : Ex (C.plus D) ρ H ρ2 H2 := Ex.cong (C := (C.plus D).sub ρ H) (C' := C.plus D) rfl x
  refine ⟨M.S.backW S2, M.E.ex x', M.st.trans x'.stp, fun n fp e => ?_, S2.fr M.at_ (M.S.bar D (.inr rfl)).1 nt_lst, M.all.stp x'.stp⟩
  obtain ⟨fp1, e1, q1⟩ := M.root n fp e
  obtain ⟨fp2, e2, q2⟩ := x'.root n fp1 e1
  exact ⟨fp2, e2, q1.trans q2⟩
end
theorem lc_read {K : PySem.W.Frag} {mg : Str → Option Value} {C : Fc} {Wx : WX} {src : En → Hs → Rz (List PyData)} {t : Tg} {vs : List Nat} {tt : Tv} {fe : Ev} {σ : St} {H : Hp} {Q : VK} {g : List PyData → Hs → Rz Sl}
    (hsl : ∀ i ∈ t.slots, i ∈ vs) {rt : TT} {re : TE} (ht : ∀ C', C'.T = C.T → ∀ σ H Q, rd K mg C' W0 relT tt σ H Q → rt σ H Q) (he : ∀ C', C'.T = C.T → ∀ σ H Q, rd K mg C' W0 (relE K C') fe σ H Q → re σ H Q)
    (fin : ∀ (D : Addr) (ρ1 ρ : Fps) (H1 H : Hp) (env : En) (acc : List PyData) (h : Hs) (av : List V) (σ' : St) h1, SimH K C ρ1 h1 H1 → H1 D = none → Mid K C D ρ1 H1 env σ' acc ρ h H av → Po K mg C Wx σ ρ1 H1 (relE K C) (g acc h) Q → Q (.ref D) H)
    (p : rd K mg C Wx (relE K C) (fun env h => (src env h).bind fun ds h => (compL t tt fe (wipeE env vs) ds [] h).bind g) σ H Q) : tLc (rd K mg C Wx (relI K C) src) (t.rd K) rt re vs σ H Q := by
  refine rd.bind (f := src) (g := fun ds env h => (compL t tt fe (wipeE env vs) ds [] h).bind g) p fun ρ1 env1 h1 ds J H1 S1 E1 G P1 => ?_
  intro D hD
  have M0 : Mid K C D ρ1 H1 (wipeE env1 vs) (wipe σ vs) [] ρ1 h1 (upd H1 D (.lst [])) [] := by
    refine ⟨S1.plus hD, ⟨(E1.wiped vs).len, fun i s e => ?_⟩, Stp.plus hD, fun n fp e => ⟨fp, e, pfx_rfl⟩, upd_same, .nil⟩
    obtain ⟨v, e1, r⟩ := (E1.wiped vs).at_ i s e
    refine ⟨v, e1, ?_⟩
    cases s with
    | val d => exact Rp.stp (Stp.plus hD) r
    | loc n => exact r
    | inn n i => exact r
    | exn x => exact r
  refine ⟨fun i m H2 => m = ds.length - i ∧ ∃ ρ2 h2 acc av, Mid K C D ρ1 H1 (wipeE env1 vs) (wipe σ vs) acc ρ2 h2 H2 av ∧ Po K mg C Wx σ ρ1 H1 (relE K C) ((compL t tt fe (wipeE env1 vs) (ds.drop i) acc h2).bind g) Q,
    ⟨ds.length - 0, rfl, ρ1, h1, [], [], M0, P1⟩, fun i m H2 hW => ?_⟩
  · obtain ⟨hm, ρ2, h2, acc, av, M, P2⟩ := hW
    by_cases hi : i < ds.length
    · have ed : ds.drop i = ds[i] :: ds.drop (i + 1) := List.drop_eq_getElem_cons hi
      have ei : ds[i]? = some ds[i] := List.getElem?_eq_getElem hi
      rw [ed] at P2
      refine .inr ⟨G.go _ H2 i _ M.st ei, fun H' => ∃ ρ3 h3 acc av, Mid K C D ρ1 H1 (wipeE env1 vs) (wipe σ vs) acc ρ3 h3 H' av ∧ Po K mg C Wx σ ρ1 H1 (relE K C) ((compL t tt fe (wipeE env1 vs) (ds.drop (i + 1)) acc h3).bind g) Q, fun H' hN => ⟨ds.length - (i + 1), by omega, rfl, hN⟩, fun x H' y => ?_⟩
      obtain ⟨S3, x3, r3⟩ := G.step (C := C.plus D) M.st M.S ei y
      have M3 : Mid K C D ρ1 H1 (wipeE env1 vs) (wipe σ vs) acc ρ2 h2 H' av := by
        have hat : H' D = some (.lst av) := by
          rcases G.yld _ H2 i _ x H' M.st ei y with ⟨rfl, _⟩ | ⟨T, ws, es, hT, rfl, _⟩ | ⟨rfl, _⟩
          · exact M.at_
          · rw [upd_ne (ne_of_none M.at_ hT)]; exact M.at_
          · exact M.at_
        exact ⟨S3, M.E.ex x3, M.st.trans x3.stp, M.root, hat, M.all.stp x3.stp⟩
      have P3 : Po K mg C Wx σ ρ1 H1 (relE K C) ((match t.put ds[i] (wipeE env1 vs) with
        | none => .bad
        | some e1 => match tt e1 h2 with
          | .ok true h => match fe e1 h with
            | .ok (.val x) h => if acc.length < 16777216 then compL t tt fe (wipeE env1 vs) (ds.drop (i + 1)) (acc ++ [x]) h else .bad
            | _ => .bad
          | .ok false h => compL t tt fe (wipeE env1 vs) (ds.drop (i + 1)) acc h
          | _ => .bad : Rz (List PyData)).bind g) Q := P2
      cases q : t.put ds[i] (wipeE env1 vs) with
      | none => rw [q] at P3; exact P3.elim
      | some e1 =>
        rw [q] at P3
        dsimp only at P3
        refine Tg.ok t x ds[i] (wipe σ vs) (wipeE env1 vs) e1 _ r3 q fun σ3 pt => ⟨by rw [pt.wipe vs hsl, wipe_wipe], ?_⟩
        have E3 : EnvOk K (C.plus D) ρ2 H' e1 σ3 := pt.env (C.plus D) ρ2 rfl M3.E
        refine ht ((C.plus D).sub ρ2 H') rfl σ3 H' _ (rd.of S3.sub (EnvOk.cong (C := C.plus D) (C' := (C.plus D).sub ρ2 H') rfl rfl E3) ?_)
        cases z : tt e1 h2 with
        | bad => rw [z] at P3; exact P3.elim
        | err _ _ => rw [z] at P3; exact P3.elim
        | ok b h4 =>
          rw [z] at P3
          intro ρ4 b' H4 x4 S4 eb
          have eb' : b' = b := eb
          subst eb'
          have M4 := M3.step S4 x4
          have x4' : Ex (C.plus D) ρ2 H' ρ4 H4 := Ex.cong (C := (C.plus D).sub ρ2 H') (C' := C.plus D) rfl x4
          cases b' with
          | false =>
            rw [if_neg Bool.false_ne_true]
            exact ⟨ρ4, h4, acc, av, M4, P3⟩
          | true =>
            rw [if_pos rfl]
            dsimp only at P3
            refine he ((C.plus D).sub ρ4 H4) rfl σ3 H4 _ (rd.of M4.S.sub (EnvOk.cong (C := C.plus D) (C' := (C.plus D).sub ρ4 H4) rfl rfl (E3.ex x4')) ?_)
            cases w : fe e1 h4 with
            | bad => rw [w] at P3; exact P3.elim
            | err _ _ => rw [w] at P3; exact P3.elim
            | ok s5 h5 =>
              rw [w] at P3
              cases s5 with
              | loc n => exact P3.elim
              | inn n i => exact P3.elim
              | exn x => exact P3.elim
              | val x5 =>
                intro ρ5 y5 H5 x5' S5 r5
                have M5 := M4.step S5 x5'
                have P4 : Po K mg C Wx σ ρ1 H1 (relE K C) ((if acc.length < 16777216 then compL t tt fe (wipeE env1 vs) (ds.drop (i + 1)) (acc ++ [x5]) h5 else .bad : Rz (List PyData)).bind g) Q := P3
                split at P4
                · rename_i hl
                  have bD : (C.plus D).Bar D := .inr rfl
                  have n0 : (C.plus D).H0 D = none := by
                    cases q0 : C.H0 D with
                    | none => exact q0
                    | some o =>
                      by_cases hw : D ∈ C.W.flatten
                      · obtain ⟨o', e'⟩ := S1.wtr D hw
                        rw [hD] at e'; cases e'
                      · obtain ⟨o', e', _⟩ := S1.frK D o q0 hw
                        rw [hD] at e'; cases e'
                  have r5' : Rp K H5 (Mo (C.plus D) ρ5) y5 x5 := r5
                  have sp := Stp.poke (C := C.plus D) (ρ := ρ5) (H := H5) (o := .lst (av ++ [y5])) bD
                  refine ⟨av, M5.at_, by rw [M5.all.length, sizeLine_eq]; exact hl, ρ5, h5, acc ++ [x5], av ++ [y5], ⟨M5.S.poke bD n0 M5.at_ nte_lst, ?_, M5.st.trans sp, M5.root, upd_same, (M5.all.stp sp).append (.cons (Rp.stp sp r5') .nil)⟩, P4⟩
                  exact M5.E.ex ⟨sp, fun n fp e => ⟨fp, e, pfx_rfl⟩⟩
                · exact P4.elim
    · have ed : ds.drop i = [] := List.drop_eq_nil_of_le (by omega)
      rw [ed] at P2
      exact .inl ⟨G.stop _ H2 i M.st (by omega), fin D ρ1 ρ2 H1 H2 _ acc h2 av _ h1 S1 hD M P2⟩
section
variable {X : Cx} {C : Fc} {Wx : WX} {elt tg iter : Expr} {ifs : List Expr} {scope : Scope} {own : List (Str × Nat)} {pos : Pos} {src : En → Hs → Rz (List PyData)} {t : Tg} {tt : Tv} {fe : Ev}
theorem lc_val {K : PySem.W.Frag} {mg : Str → Option Value} {σ : St} {Q : VK} (D : Addr) (ρ1 ρ : Fps) (H1 H : Hp) (env : En) (acc : List PyData) (h : Hs) (av : List V) (σ' : St) (h1 : Hs) (S1 : SimH K C ρ1 h1 H1) (hD : H1 D = none) (M : Mid K C D ρ1 H1 env σ' acc ρ h H av)
    (P : Po K mg C Wx σ ρ1 H1 (relE K C) (.ok (.val (.list acc)) h) Q) : Q (.ref D) H := by
  have nb : ¬ C.Bar D := fun b => by
    obtain ⟨_, o, e⟩ := S1.bar D b
    rw [hD] at e; cases e
  refine P ρ (.ref D) H M.ex M.S.unplus (.lst (.inl ⟨.inl M.at_, fun m => ?_⟩) (M.all.fewer fun _ => Mo.unplus))
  rcases m with m | m
  · exact (M.S.bar D (.inr rfl)).1 m
  · exact nb m
theorem lc_loc {K : PySem.W.Frag} {mg : Str → Option Value} {σ : St} {Q : VK} (D : Addr) (ρ1 ρ : Fps) (H1 H : Hp) (env : En) (acc : List PyData) (h : Hs) (av : List V) (σ' : St) (h1 : Hs) (S1 : SimH K C ρ1 h1 H1) (hD : H1 D = none) (M : Mid K C D ρ1 H1 env σ' acc ρ h H av)
    (P : Po K mg C Wx σ ρ1 H1 (relE K C) (.ok (.loc h.length) (h ++ [.lst acc])) Q) : Q (.ref D) H := by
  have nb : ¬ C.Bar D := fun b => by
    obtain ⟨_, o, e⟩ := S1.bar D b
    rw [hD] at e; cases e
  have n0 : C.H0 D = none := by
    cases q0 : C.H0 D with
    | none => rfl
    | some o =>
      by_cases hw : D ∈ C.W.flatten
      · obtain ⟨o', e'⟩ := S1.wtr D hw
        rw [hD] at e'; cases e'
      · obtain ⟨o', e', _⟩ := S1.frK D o q0 hw
        rw [hD] at e'; cases e'
  have S := M.S.adopt (ob := .lst acc) n0 nb ⟨D, av, rfl, M.at_, M.all⟩
  refine P (ρ ++ [[D]]) (.ref D) H ⟨⟨M.st.keepK, fun b m => M.st.new b (Mo.adopt.mp m)⟩, fun n fp e => ?_⟩ S ?_
  · obtain ⟨fp', e', q⟩ := M.root n fp e
    exact ⟨fp', by rw [List.getElem?_append_left (List.getElem?_eq_some_iff.mp e').1]; exact e', q⟩
  · rw [← M.S.len]
    exact SlV.pushed _
theorem fe_comp (hc : X.calm = true) (hN : X.N.Nodup) (hi : FI X C Wx tg iter src) (ok : BlkOk X.N X.env.scope scope own)
    (hg : ∀ (s : Shared) (H : Hp) (Cc : Addr) (cl : List (Str × Addr)) (fp : List Addr), FG (X.blk s H scope (compEnvC scope cl Cc X.env) fp) tg t)
    (ht : ∀ (C' : Fc) (_ : C'.T = C.T) (s : Shared) (H : Hp) (Cc : Addr) (cl : List (Str × Addr)) (fp : List Addr), FTs (X.blk s H scope (compEnvC scope cl Cc X.env) fp) C' W0 ifs tt)
    (he : ∀ (C' : Fc) (_ : C'.T = C.T) (s : Shared) (H : Hp) (Cc : Addr) (cl : List (Str × Addr)) (fp : List Addr), FE (X.blk s H scope (compEnvC scope cl Cc X.env) fp) C' W0 elt fe)
    (hsl : ∀ i ∈ t.slots, i ∈ own.map (·.2) := by decide) (hs : ∀ x, foldedSetIterable iter X.env x = pure x := by intro _; rfl) :
    FE X C Wx (.ListComp elt [⟨tg, iter, ifs, 0⟩] scope pos) (eComp src t (own.map (·.2)) tt fe) :=
  PE.imp (pe_lc (tt := fun σ H Q => ∃ C', C'.T = C.T ∧ rd X.K X.mg C' W0 relT tt σ H Q) (te := fun σ H Q => ∃ C', C'.T = C.T ∧ rd X.K X.mg C' W0 (relE X.K C') fe σ H Q) hc hN hi ok hg
    (fun s H Cc cl fp => ⟨fun pins s' σ H Q I ⟨C', z, q⟩ => (ht C' z s _ Cc cl fp).run pins s' σ H Q I q⟩) (fun s H Cc cl fp => ⟨fun pins s' σ H Q I ⟨C', z, q⟩ => (he C' z s _ Cc cl fp).run pins s' σ H Q I q⟩) hs) fun σ H Q p =>
    lc_read (g := fun out h => .ok (.val (.list out)) h) hsl (fun C' z _ _ _ q => ⟨C', z, q⟩) (fun C' z _ _ _ q => ⟨C', z, q⟩) lc_val p
theorem fe_compN (hc : X.calm = true) (hN : X.N.Nodup) (hi : FI X C Wx tg iter src) (ok : BlkOk X.N X.env.scope scope own)
    (hg : ∀ (s : Shared) (H : Hp) (Cc : Addr) (cl : List (Str × Addr)) (fp : List Addr), FG (X.blk s H scope (compEnvC scope cl Cc X.env) fp) tg t)
    (ht : ∀ (C' : Fc) (_ : C'.T = C.T) (s : Shared) (H : Hp) (Cc : Addr) (cl : List (Str × Addr)) (fp : List Addr), FTs (X.blk s H scope (compEnvC scope cl Cc X.env) fp) C' W0 ifs tt)
    (he : ∀ (C' : Fc) (_ : C'.T = C.T) (s : Shared) (H : Hp) (Cc : Addr) (cl : List (Str × Addr)) (fp : List Addr), FE (X.blk s H scope (compEnvC scope cl Cc X.env) fp) C' W0 elt fe)
    (hsl : ∀ i ∈ t.slots, i ∈ own.map (·.2) := by decide) (hs : ∀ x, foldedSetIterable iter X.env x = pure x := by intro _; rfl) :
    FE X C Wx (.ListComp elt [⟨tg, iter, ifs, 0⟩] scope pos) (eCompN src t (own.map (·.2)) tt fe) :=
  PE.imp (pe_lc (tt := fun σ H Q => ∃ C', C'.T = C.T ∧ rd X.K X.mg C' W0 relT tt σ H Q) (te := fun σ H Q => ∃ C', C'.T = C.T ∧ rd X.K X.mg C' W0 (relE X.K C') fe σ H Q) hc hN hi ok hg
    (fun s H Cc cl fp => ⟨fun pins s' σ H Q I ⟨C', z, q⟩ => (ht C' z s _ Cc cl fp).run pins s' σ H Q I q⟩) (fun s H Cc cl fp => ⟨fun pins s' σ H Q I ⟨C', z, q⟩ => (he C' z s _ Cc cl fp).run pins s' σ H Q I q⟩) hs) fun σ H Q p =>
    lc_read (g := fun out h => .ok (.loc h.length) (h ++ [Ob.lst out])) hsl (fun C' z _ _ _ q => ⟨C', z, q⟩) (fun C' z _ _ _ q => ⟨C', z, q⟩) lc_loc p
end
end FL
namespace FL
open PySem PySem.Spec PyProof.Rows L2
/-- the arguments of a call: data, and objects that may be changed -/
inductive ArgsOk (K : PySem.W.Frag) (H : Hp) (M : Ms) : List Bool → List V → List PyData → Hs → List Addr → Prop
  | nil : ArgsOk K H M [] [] [] [] []
  | val {io : List Bool} {v : V} {vs : List V} {d : PyData} {ds : List PyData} {os : Hs} {ad : List Addr} : Rp K H M v d → ArgsOk K H M io vs ds os ad → ArgsOk K H M (false :: io) (v :: vs) (d :: ds) os ad
  | obj {io : List Bool} {a : Addr} {vs : List V} {o : Ob} {ds : List PyData} {os : Hs} {ad : List Addr} : ObOk K H M [a] o → ArgsOk K H M io vs ds os ad → ArgsOk K H M (true :: io) (.ref a :: vs) ds (o :: os) (a :: ad)
def OsOk (K : PySem.W.Frag) (H : Hp) (M : Ms) (ad : List Addr) (os : Hs) : Prop := ad.length = os.length ∧ ∀ (n : Nat) (a : Addr) (o : Ob), ad[n]? = some a → os[n]? = some o → ObOk K H M [a] o
mutual
/-- no list in it -/
def noL : PyData → Bool
  | .list _ => false
  | .dict _ => false
  | .tuple ds => noLs ds
  | .none => true
  | .bool _ => true
  | .int _ => true
  | .str _ => true
def noLs : List PyData → Bool
  | [] => true
  | d :: ds => noL d && noLs ds
end
abbrev Fm := List PyData → Hs → Rz PyData
def Ma (ad : List Addr) (Bar : Ms) : Ms := fun a => a ∈ ad ∨ Bar a
/-- what is new, if it is a list -/
def FrOk (K : PySem.W.Frag) (H H' : Hp) (M : Ms) (v : V) (d : PyData) : Prop :=
  noL d = true ∨ ∃ a vs ds, v = .ref a ∧ d = .list ds ∧ H a = none ∧ H' a = some (.lst vs) ∧ RpAll K H' M vs ds ∧ noLs ds = true
/-- all but what stands at ad stays; tables may grow -/
def FrmK (T : List (Addr × Str)) (ad : List Addr) (H H' : Hp) : Prop := (∀ b o, H b = some o → b ∉ ad → ∃ o', H' b = some o' ∧ Kp o o') ∧ LamX.Tabs T H'
/-- what a def may not hand on: it is there, and no tuple -/
def BarOk (H : Hp) (ad : List Addr) (Bar : Ms) : Prop := (∀ b, Bar b → b ∉ ad ∧ ∃ o, H b = some o) ∧ ∀ b (xs : Hd), Bar b → H b ≠ some xs.o
/-- the promise that a mirror tells -/
def spOf (K : PySem.W.Frag) (mg : Str → Option Value) (T : List (Addr × Str)) (fr : Bool) (io : List Bool) (m : Fm) : Sp := fun vs H Q E =>
  ∃ (ad : List Addr) (Bar : Ms) (ds : List PyData) (os : Hs), LamX.Tabs T H ∧ ArgsOk K H (Ma ad Bar) io vs ds os ad ∧ ad.Nodup ∧ BarOk H ad Bar ∧ match m ds os with
    | .ok d os' => ∀ v H', FrmK T ad H H' → OsOk K H' (Ma ad Bar) ad os' → Rp K H' (Ma ad Bar) v d → (fr = true → FrOk K H H' (Ma ad Bar) v d) → Q v H'
    | .err x os' => ∀ H' cls d, FrmK T ad H H' → OsOk K H' (Ma ad Bar) ad os' → XnOk K mg H' (Ma ad Bar) x cls d → E cls d H'
    | .bad => False
/-- a def's promise, where no repr is under way -/
structure FnG (P : Program) (w : World) (K : PySem.W.Frag) (mg : Str → Option Value) (base : Heap) (X : CXT) (k : Nat) (f : Addr) (fd : FuncData) (ps : List Str) (sp : Sp) : Prop where
  len : ∀ vs H Q E, sp vs H Q E → vs.length = ps.length
  run : ∀ (A : Around) (outer : List Env) (s : Shared) (H : Hp) (args : Args) (us : List Value) (vs : List V) (Q : VK) (E : XK), A.guards = some [] → Room k A → Env0 P w K mg base A outer s H → BindsTo s fd args (ps.zip us) → Vals vs us → sp vs H Q E →
    codeAny (model P w) A (.call (.ref f) args) (CR X outer P w H s Q E) s
theorem FnG.mono {P : Program} {w : World} {K : PySem.W.Frag} {mg : Str → Option Value} {base : Heap} {X : CXT} {j k : Nat} {f : Addr} {fd : FuncData} {ps : List Str} {sp : Sp} (F : FnG P w K mg base X j f fd ps sp) (h : j ≤ k) : FnG P w K mg base X k f fd ps sp :=
  ⟨F.len, fun A outer s H args us vs Q E hg hr => F.run A outer s H args us vs Q E hg (hr.mono h)⟩
section
variable {P : Program} {w : World} {K : PySem.W.Frag} {mg : Str → Option Value} {base : Heap}
/-- a def by its body -/
theorem fnG_of {X : CXT} {x qual : Str} {st : Stmt} {f : Addr} {fd : FuncData} {N ps : List Str} {k : Nat} {sp : Sp} (F : Fun K x qual st f fd) (S : FnScope N ps (defScope st)) (len : ∀ vs H Q E, sp vs H Q E → vs.length = ps.length)
    (hb : ∀ (cdv : Value), fd.code = cdv → ∀ (A : Around) (outer : List Env) (s : Shared) (H : Hp) (vs : List V) (Q : VK) (E : XK), A.guards = some [] → Room k (A.deeper (envOfC qual (defScope st) s.heap.objs.size f cdv)) → sp vs H Q E →
      ∃ t, PSs (cxOf X P w K mg base N qual (defScope st) f cdv A outer s H E) (defBody st) t ∧ t { nx := fun _ H' => Q .non H', rt := Q } (start N vs) H) : FnG P w K mg base X (k + 1) f fd ps sp := by
  obtain ⟨oc, od, kV, doc, pm, an, cdv, ct, osl, rfl, lk, hcd⟩ := F.ex
  constructor
  · exact len
  intro A outer s H args us vs Q E hg hr e0 hbn r hsp
  have up : ∀ b o, base.get? b = some o → s.heap.get? b = some o := fun b o e => (e0.bs b o e).1
  have kinds : ∀ y ∈ ps.zip us, (defScope st).names.lookup y.1 = some .local ∨ ((defScope st).names.lookup y.1 = some .cell ∧ ((cellsFrom (s.heap.objs.size + 1) (defScope st).names []).lookup y.1).isSome = true) := by
    rintro ⟨n, v⟩ hy
    have hn := S.par n (List.of_mem_zip hy).1
    exact hn.imp id fun q => ⟨q, PySem.W.cellsFrom_some _ _ _ (.inl q)⟩
  have kin : K.In s.heap := e0.mod.kin.keeps up
  refine codeAny_call_function hr.depth (kin _ _ lk) rfl S.co S.gen rfl (PySem.W.codeRec_of kin hcd) (hbn _ _ _ _ (wpAny_newFunctionEnv_cells S.kind kinds ?_))
  intro env he s1 x1
  subst he
  obtain ⟨t, ht, hq⟩ := hb cdv rfl A outer s H vs Q E hg (hr.deeper _) hsp
  refine ⟨(e0.mod.nolimit.keeps up).keeps x1.toInCall.keep, codeAny_func (wpAny_mono (ht.run [] s1 (start N vs) H _ (inv_start S hr.hd e0 (len _ _ _ _ hsp) r x1) hq) ?_ fun e s' hs => hs)⟩
  intro fl s' hs
  match fl, hs with
  | .ret u, hs => obtain ⟨v, _, H', J, rv, q⟩ := hs; exact ⟨v, H', J.os, J.bare, J.base, J.hok, rv, q⟩
  | .next, hs => obtain ⟨_, H', J, q⟩ := hs; exact ⟨V.non, H', J.os, J.bare, J.base, J.hok, rfl, q⟩
  | .brk, hs => obtain ⟨_, _, _, q⟩ := hs; exact False.elim q
  | .cont, hs => obtain ⟨_, _, _, q⟩ := hs; exact False.elim q
end
def mkEnv : List Bool → List PyData → Nat → En
  | false :: io, d :: ds, k => some (.val d) :: mkEnv io ds k
  | true :: io, ds, k => some (.loc k) :: mkEnv io ds (k + 1)
  | _, _, _ => []
def outD (fr : Bool) (k : Nat) (s : Sl) (h : Hs) : Rz PyData := match s with
  | .val d => if fr = true ∧ noL d = false then .bad else .ok d (h.take k)
  | .loc n => if k ≤ n then (match h[n]? with
    | some (.lst ds) => if fr = true ∧ noLs ds = false then .bad else .ok (.list ds) (h.take k)
    | some (.lls dss) => if fr = true then .bad else .ok (.list (dss.map .list)) (h.take k)
    | _ => .bad) else .bad
  | _ => .bad
def runFn (fr : Bool) (io : List Bool) (nl : Nat) (fb : Sv) : Fm := fun ds os => match fb (mkEnv io ds 0 ++ List.replicate nl none) os with
  | .next _ h => .ok .none (h.take os.length)
  | .ret s h => outD fr os.length s h
  | .err x _ h => .err x (h.take os.length)
  | _ => .bad
section
variable {K : PySem.W.Frag} {H : Hp} {M : Ms}
theorem ArgsOk.lens : ∀ {io : List Bool} {vs : List V} {ds : List PyData} {os : Hs} {ad : List Addr}, ArgsOk K H M io vs ds os ad → vs.length = io.length ∧ ad.length = os.length
  | _, _, _, _, _, .nil => ⟨rfl, rfl⟩
  | _, _, _, _, _, .val _ t => ⟨congrArg (· + 1) t.lens.1, t.lens.2⟩
  | _, _, _, _, _, .obj _ t => ⟨congrArg (· + 1) t.lens.1, congrArg (· + 1) t.lens.2⟩
theorem ArgsOk.count : ∀ {io : List Bool} {vs : List V} {ds : List PyData} {os : Hs} {ad : List Addr}, ArgsOk K H M io vs ds os ad → ad.length = io.count true
  | _, _, _, _, _, .nil => rfl
  | _, _, _, _, _, .val _ t => by rw [List.count_cons]; simpa using t.count
  | _, _, _, _, _, .obj _ t => by rw [List.count_cons]; simpa using t.count
theorem ArgsOk.objs : ∀ {io : List Bool} {vs : List V} {ds : List PyData} {os : Hs} {ad : List Addr}, ArgsOk K H M io vs ds os ad → ∀ (n : Nat) (a : Addr) (o : Ob), ad[n]? = some a → os[n]? = some o → ObOk K H M [a] o
  | _, _, _, _, _, .nil, _, _, _, e, _ => by simp at e
  | _, _, _, _, _, .val _ t, n, a, o, e, e' => t.objs n a o e e'
  | _, _, _, _, _, .obj x t, 0, a, o, e, e' => by
    simp at e e'
    subst e; subst e'
    exact x
  | _, _, _, _, _, .obj x t, n + 1, a, o, e, e' => t.objs n a o (by simpa using e) (by simpa using e')
theorem ObOk.trk {fp : List Addr} {o : Ob} (x : ObOk K H M fp o) : ∀ a ∈ fp, ∃ u, H a = some u := fun a m => by
  obtain ⟨u, e, _⟩ := x.nte m
  exact ⟨u, e⟩
theorem flatten_ones (ad : List Addr) : (ad.map fun a => [a]).flatten = ad := by
  induction ad with
  | nil => rfl
  | cons a r ih => rw [List.map_cons, List.flatten_cons, ih]; rfl
/-- a def's beginning -/
theorem simH_start {T : List (Addr × Str)} {Bar : Ms} {io : List Bool} {vs : List V} {ds : List PyData} {os : Hs} {ad : List Addr} (a : ArgsOk K H (Ma ad Bar) io vs ds os ad) (nd : ad.Nodup) (nb : BarOk H ad Bar) (tb : LamX.Tabs T H) :
    SimH K ⟨H, ad.map fun a => [a], Bar, T, none⟩ (ad.map fun a => [a]) os H := by
  have eM : Mo ⟨H, ad.map fun a => [a], Bar, T, none⟩ (ad.map fun a => [a]) = Ma ad Bar := by
    funext b
    unfold Mo Ma
    rw [flatten_ones]
  have trk : ∀ b ∈ ad, ∃ o, H b = some o := fun b hb => by
    obtain ⟨n, hn, e⟩ := List.getElem_of_mem hb
    have hl := a.lens.2
    have h2 : n < os.length := by omega
    exact (a.objs n b os[n] (by rw [← e]; exact List.getElem?_eq_getElem hn) (List.getElem?_eq_getElem h2)).trk b (by simp)
  refine ⟨by rw [List.length_map]; exact a.lens.2, by rw [flatten_ones]; exact nd, fun b hb => trk b (by rw [flatten_ones] at hb; exact hb), fun n fp o e1 e2 => ?_, fun _ o e _ => ⟨o, e, .inl rfl⟩, fun b hb => .inl hb, fun b hb => ?_, fun b hb => trk b ?_, fun n fp e => e, tb, nb.2⟩
  · rw [eM]
    rw [List.getElem?_map] at e1
    cases q : ad[n]? with
    | none => rw [q] at e1; cases e1
    | some b =>
      rw [q] at e1
      cases e1
      exact a.objs n b o q e2
  · rw [flatten_ones]
    exact nb.1 b hb
  · rw [← flatten_ones ad]; exact hb
theorem envOk_args {C : Fc} {ρ : Fps} (hM : ∀ v d, Rp K H M v d → Rp K H (Mo C ρ) v d) : ∀ {io : List Bool} {vs : List V} {ds : List PyData} {os : Hs} {ad : List Addr} {k : Nat}, ArgsOk K H M io vs ds os ad → (∀ (n : Nat) (a : Addr), ad[n]? = some a → ρ[k + n]? = some [a]) →
    (mkEnv io ds k).length = vs.length ∧ ∀ (i : Nat) (s : Sl), (mkEnv io ds k)[i]? = some (some s) → ∃ v, vs[i]? = some v ∧ SlV K C ρ H v s
  | _, _, _, _, _, k, .nil, _ => ⟨rfl, fun i s e => by simp [mkEnv] at e⟩
  | _, _, _, _, _, k, .val r t, hρ => by
    obtain ⟨l, g⟩ := envOk_args hM (k := k) t hρ
    refine ⟨congrArg (· + 1) l, fun i s e => ?_⟩
    cases i with
    | zero =>
      simp [mkEnv] at e
      subst e
      exact ⟨_, rfl, hM _ _ r⟩
    | succ i =>
      obtain ⟨v, e1, r1⟩ := g i s (by simpa [mkEnv] using e)
      exact ⟨v, by simpa using e1, r1⟩
  | _, _, _, _, _, k, .obj (a := a) x t, hρ => by
    obtain ⟨l, g⟩ := envOk_args hM (k := k + 1) t fun n b e => by
      have := hρ (n + 1) b (by simpa using e)
      rw [show k + 1 + n = k + (n + 1) by omega]
      exact this
    refine ⟨congrArg (· + 1) l, fun i s e => ?_⟩
    cases i with
    | zero =>
      have e' : Sl.loc k = s := by simpa [mkEnv] using e
      subst e'
      exact ⟨_, rfl, [a], a, hρ 0 a rfl, rfl, rfl⟩
    | succ i =>
      obtain ⟨v, e1, r1⟩ := g i s (by simpa [mkEnv] using e)
      exact ⟨v, by simpa using e1, r1⟩
theorem envOk_start {C : Fc} {ρ : Fps} {Bar : Ms} {io : List Bool} {vs : List V} {ds : List PyData} {os : Hs} {ad : List Addr} {N : List Str} (a : ArgsOk K H M io vs ds os ad) (hM : ∀ v d, Rp K H M v d → Rp K H (Mo C ρ) v d) (hρ : ρ = ad.map fun a => [a]) :
    EnvOk K C ρ H (mkEnv io ds 0 ++ List.replicate (N.length - io.length) none) (L2.start N vs) := by
  obtain ⟨l, g⟩ := envOk_args (k := 0) hM a fun n b e => by
    rw [hρ, List.getElem?_map, Nat.zero_add, e]; rfl
  have hv := a.lens.1
  unfold L2.start
  refine ⟨by rw [List.length_append, List.length_append, List.length_replicate, List.length_replicate, List.length_map, l, hv], fun i s e => ?_⟩
  by_cases hi : i < (mkEnv io ds 0).length
  · rw [List.getElem?_append_left hi] at e
    obtain ⟨v, e1, r⟩ := g i s e
    refine ⟨v, ?_, r⟩
    rw [List.getElem?_append_left (by rw [List.length_map]; omega), List.getElem?_map, e1]; rfl
  · rw [List.getElem?_append_right (by omega), List.getElem?_replicate] at e
    split at e <;> cases e
end
def Wq (E : XK) : WX := fun cls d _ H => E cls d H
theorem oof_end {T : List (Addr × Str)} {K : PySem.W.Frag} {H H' : Hp} {Bar : Ms} {ad : List Addr} {ρ : Fps} {h : Hs} (S : SimH K ⟨H, ad.map fun a => [a], Bar, T, none⟩ ρ h H') : (∀ b, Ma ad Bar b → Mo ⟨H, ad.map fun a => [a], Bar, T, none⟩ ρ b) ∧ OsOk K H' (Ma ad Bar) ad (h.take ad.length) := by
  have root : ∀ (n : Nat) (a : Addr), ad[n]? = some a → ∃ fp : List Addr, ρ[n]? = some fp ∧ fp.head? = some a := fun n a e => by
    have e1 := S.pre n [a] (by show (ad.map fun a => [a])[n]? = _; rw [List.getElem?_map, e]; rfl)
    exact ⟨[a], e1, rfl⟩
  have sub : ∀ b, Ma ad Bar b → Mo ⟨H, ad.map fun a => [a], Bar, T, none⟩ ρ b := fun b m => by
    rcases m with m | m
    · obtain ⟨n, hn, e⟩ := List.getElem_of_mem m
      obtain ⟨fp, e1, q⟩ := root n b (by rw [← e]; exact List.getElem?_eq_getElem hn)
      refine .inl (flat_at e1 ?_)
      cases fp with
      | nil => cases q
      | cons c r => cases q; simp
    · exact .inr m
  have wl := S.wlen
  have wl' : ad.length ≤ h.length := by
    have : (ad.map fun a => [a]).length ≤ h.length := wl
    rw [List.length_map] at this
    exact this
  refine ⟨sub, by rw [List.length_take]; omega, fun n a o e1 e2 => ?_⟩
  obtain ⟨fp, e3, q⟩ := root n a e1
  have x := S.obj n fp o e3 (get_take e2)
  have fe : fp = [a] := by
    have z := S.pre n [a] (by show (ad.map fun a => [a])[n]? = _; rw [List.getElem?_map, e1]; rfl)
    rw [e3] at z
    exact Option.some.inj z
  subst fe
  exact ObOk.fewer sub x
/-- a body's reading from what a promise tells -/
theorem sp_body {T : List (Addr × Str)} {K : PySem.W.Frag} {mg : Str → Option Value} {N : List Str} {fr : Bool} {io : List Bool} {fb : Sv} {vs : List V} {H : Hp} {Q : VK} {E : XK} (hsp : spOf K mg T fr io (runFn fr io (N.length - io.length) fb) vs H Q E) :
    ∃ C : Fc, C.T = T ∧ C.W.length = io.count true ∧ rdS K mg C (Wq E) fb { nx := fun _ H' => Q .non H', rt := Q } (start N vs) H := by
  obtain ⟨ad, Bar, ds, os, tb, a, nd, nb, P0⟩ := hsp
  refine ⟨⟨H, ad.map fun a => [a], Bar, T, none⟩, rfl, by rw [List.length_map]; exact a.count, ad.map fun a => [a], mkEnv io ds 0 ++ List.replicate (N.length - io.length) none, os, simH_start a nd nb tb, envOk_start (Bar := Bar) a (fun v d r => Rp.fewer (fun b m => ?_) r) rfl, ?_⟩
  · unfold Mo at m
    rw [flatten_ones] at m
    exact m
  have hlen := a.lens.2
  have P1 : match (match fb (mkEnv io ds 0 ++ List.replicate (N.length - io.length) none) os with
    | .next _ h => (.ok .none (h.take os.length) : Rz PyData)
    | .ret s h => outD fr os.length s h
    | .err x _ h => .err x (h.take os.length)
    | _ => .bad) with
    | .ok d os' => ∀ v H', FrmK T ad H H' → OsOk K H' (Ma ad Bar) ad os' → Rp K H' (Ma ad Bar) v d → (fr = true → FrOk K H H' (Ma ad Bar) v d) → Q v H'
    | .err x os' => ∀ H' cls d, FrmK T ad H H' → OsOk K H' (Ma ad Bar) ad os' → XnOk K mg H' (Ma ad Bar) x cls d → E cls d H'
    | .bad => False := P0
  have frame : ∀ {ρ : Fps} {h : Hs} {H' : Hp}, SimH K ⟨H, ad.map fun a => [a], Bar, T, none⟩ ρ h H' → FrmK T ad H H' := fun S' => ⟨fun b o e n => S'.frK b o e (by
    show b ∉ (ad.map fun a => [a]).flatten
    rw [flatten_ones]; exact n), S'.tab⟩
  cases q : fb (mkEnv io ds 0 ++ List.replicate (N.length - io.length) none) os with
  | next e h =>
    rw [q] at P1
    intro ρ' σ' H' st' S' E'
    obtain ⟨sub, oo⟩ := oof_end S'
    rw [hlen] at oo
    exact P1 .non H' (frame S') oo .non fun _ => .inl rfl
  | err y e h =>
    rw [q] at P1
    intro ρ' σ' H' cls d st' S' E' xn
    obtain ⟨sub, oo⟩ := oof_end S'
    rw [hlen] at oo
    refine P1 H' cls d (frame S') oo ⟨xn.1, xn.2.imp id fun ⟨nf, da, ws, h1, h2, h3, h4⟩ => ⟨nf, da, ws, h1, h2, h3, h4.fewer sub⟩⟩
  | brk _ _ => rw [q] at P1; exact P1.elim
  | cont _ _ => rw [q] at P1; exact P1.elim
  | bad => rw [q] at P1; exact P1.elim
  | ret s h =>
    rw [q] at P1
    intro ρ' v H' st' S' r
    obtain ⟨sub, oo⟩ := oof_end S'
    rw [hlen] at oo
    cases s with
    | val d =>
      have P2 : match (if fr = true ∧ noL d = false then .bad else .ok d (h.take os.length) : Rz PyData) with
        | .ok d os' => ∀ v H', FrmK T ad H H' → OsOk K H' (Ma ad Bar) ad os' → Rp K H' (Ma ad Bar) v d → (fr = true → FrOk K H H' (Ma ad Bar) v d) → Q v H'
        | .err x os' => ∀ H' cls d, FrmK T ad H H' → OsOk K H' (Ma ad Bar) ad os' → XnOk K mg H' (Ma ad Bar) x cls d → E cls d H'
        | .bad => False := P1
      by_cases c : fr = true ∧ noL d = false
      · rw [if_pos c] at P2; exact P2.elim
      · rw [if_neg c] at P2
        refine P2 v H' (frame S') oo (Rp.fewer sub r) fun hf => .inl ?_
        cases z : noL d with
        | true => rfl
        | false => exact absurd ⟨hf, z⟩ c
    | loc n =>
      obtain ⟨fp, a0, e1, e2, rfl⟩ := r
      have P2 : match (if os.length ≤ n then (match h[n]? with
        | some (.lst ds) => if fr = true ∧ noLs ds = false then .bad else .ok (.list ds) (h.take os.length)
        | some (.lls dss) => if fr = true then .bad else .ok (.list (dss.map .list)) (h.take os.length)
        | _ => .bad) else .bad : Rz PyData) with
        | .ok d os' => ∀ v H', FrmK T ad H H' → OsOk K H' (Ma ad Bar) ad os' → Rp K H' (Ma ad Bar) v d → (fr = true → FrOk K H H' (Ma ad Bar) v d) → Q v H'
        | .err x os' => ∀ H' cls d, FrmK T ad H H' → OsOk K H' (Ma ad Bar) ad os' → XnOk K mg H' (Ma ad Bar) x cls d → E cls d H'
        | .bad => False := P1
      by_cases hn : os.length ≤ n
      · rw [if_pos hn] at P2
        cases z : h[n]? with
        | none => rw [z] at P2; exact P2.elim
        | some o =>
          rw [z] at P2
          cases o with
          | dic _ => exact P2.elim
          | dil _ _ => exact P2.elim
          | dtp _ => exact P2.elim
          | dtq _ => exact P2.elim
          | gone => exact P2.elim
          | lls dss =>
            dsimp only at P2
            by_cases c : fr = true
            · rw [if_pos c] at P2; exact P2.elim
            · rw [if_neg c] at P2
              obtain ⟨b, bs, rfl, hb, hlen2, w⟩ := S'.obj n fp _ e1 z
              have eb : b = a0 := by simpa using e2
              subst eb
              have nm : ∀ c ∈ b :: bs, ¬ Ma ad Bar c := fun c hc m => by
                rcases m with m | m
                · obtain ⟨j, hj, ej⟩ := List.getElem_of_mem m
                  have e3 := S'.pre j [c] (by show (ad.map fun a => [a])[j]? = _; rw [List.getElem?_map, List.getElem?_eq_getElem hj, ej]; rfl)
                  have := nodup_apart S'.nd e1 e3 hc (by simp)
                  omega
                · exact (S'.bar c m).1 (flat_at e1 hc)
              refine P2 (.ref b) H' (frame S') oo (.lst (.inl ⟨.inl hb, nm b (by simp)⟩) ?_) fun hf => absurd hf c
              have key : ∀ (bs : List Addr) (dss : List (List PyData)), bs.length = dss.length → (∀ c ∈ bs, ¬ Ma ad Bar c) → (∀ (i : Nat) (b : Addr) (ds : List PyData), bs[i]? = some b → dss[i]? = some ds → ∃ vs, H' b = some (.lst vs) ∧ RpAll K H' (Ma ad Bar) vs ds) → RpAll K H' (Ma ad Bar) (bs.map V.ref) (dss.map .list) := by
                intro bs
                induction bs with
                | nil =>
                  intro dss hl _ _
                  cases dss with
                  | nil => exact .nil
                  | cons _ _ => cases hl
                | cons b bs ih =>
                  intro dss hl hn hw
                  cases dss with
                  | nil => cases hl
                  | cons ds dss =>
                    obtain ⟨vs, q1, q2⟩ := hw 0 b ds rfl rfl
                    exact .cons (.lst (.inl ⟨.inl q1, hn b (by simp)⟩) q2) (ih dss (by simpa using hl) (fun c hc => hn c (List.mem_cons_of_mem _ hc)) fun i b ds h1 h2 => hw (i + 1) b ds (by simpa using h1) (by simpa using h2))
              exact key bs dss hlen2 (fun c hc => nm c (List.mem_cons_of_mem _ hc)) fun i b ds h1 h2 => by
                obtain ⟨vs, q1, q2⟩ := w i b ds h1 h2
                exact ⟨vs, q1, q2.fewer sub⟩
          | lst ls =>
            dsimp only at P2
            obtain ⟨e1', ws, hw, ra⟩ := S'.lst e1 e2 z
            have mem : a0 ∈ ρ'.flatten := flat_at e1' (by simp)
            have nad : a0 ∉ ad := fun m => by
              obtain ⟨j, hj, ej⟩ := List.getElem_of_mem m
              have e3 := S'.pre j [a0] (by show (ad.map fun a => [a])[j]? = _; rw [List.getElem?_map, List.getElem?_eq_getElem hj, ej]; rfl)
              have hm : a0 ∈ [a0] := by simp
              have := nodup_apart S'.nd e1' e3 (by simp) hm
              omega
            have new : H a0 = none := by
              rcases S'.own a0 mem with w | w
              · exact absurd (by
                  have w' : a0 ∈ (ad.map fun a => [a]).flatten := w
                  rw [flatten_ones] at w'; exact w') nad
              · exact w
            have nbar : ¬ Bar a0 := fun b => (S'.bar a0 b).1 mem
            by_cases c : fr = true ∧ noLs ls = false
            · rw [if_pos c] at P2; exact P2.elim
            · rw [if_neg c] at P2
              refine P2 (.ref a0) H' (frame S') oo (.lst (.inl ⟨.inl hw, fun m => m.elim nad nbar⟩) (ra.fewer sub)) fun hf => .inr ⟨a0, ws, ls, rfl, rfl, new, hw, ra.fewer sub, ?_⟩
              cases z : noLs ls with
              | true => rfl
              | false => exact absurd ⟨hf, z⟩ c
      · rw [if_neg hn] at P2; exact P2.elim
    | inn n i => exact P1.elim
    | exn x => exact P1.elim
/-- a def keeps what its mirror tells -/
theorem fnD {T : List (Addr × Str)} {P : Program} {w : World} {K : PySem.W.Frag} {mg : Str → Option Value} {base : Heap} {x qual : Str} {st : Stmt} {f : Addr} {fd : FuncData} {N ps : List Str} {k : Nat} (fr : Bool) (io : List Bool) {fb : Sv} (F : Fun K x qual st f fd) (S : FnScope N ps (defScope st)) (hio : io.length = ps.length)
    (hb : ∀ (cdv : Value), fd.code = cdv → ∀ (A : Around) (outer : List Env) (s : Shared) (H : Hp) (E : XK) (C : Fc), C.T = T → C.W.length = io.count true → A.guards = some [] → Room k (A.deeper (envOfC qual (defScope st) s.heap.objs.size f cdv)) → FSs (cxOf (L2.CX P w) P w K mg base N qual (defScope st) f cdv A outer s H E) C (Wq E) (defBody st) fb) :
    FnG P w K mg base (L2.CX P w) (k + 1) f fd ps (spOf K mg T fr io (runFn fr io (N.length - io.length) fb)) := by
  refine fnG_of F S (fun vs H Q E ⟨ad, Bar, ds, os, _, a, _⟩ => by rw [a.lens.1, hio]) fun cdv hcv A outer s H vs Q E hg hr hsp => ?_
  obtain ⟨C, h1, h2, h3⟩ := sp_body hsp
  exact ⟨_, hb cdv hcv A outer s H E C h1 h2 hg hr, h3⟩
end FL
namespace FL
open PySem PySem.Spec PyProof.Rows L2
/-- the arguments taken apart: data, the places of objects that may be changed, these objects, the places of those that are only looked at -/
def dat0 (s : Sl) (h : Hs) : Option PyData := match s with
  | .val d => some d
  | .loc n => match h[n]? with
    | some (.lst ds) => some (.list ds)
    | _ => none
  | _ => none
def flat? (o : Option Ob) : Option Ob := match o with
  | some (.lls _) => none
  | some .gone => none
  | some (.dil _ _) => none
  | o => o
theorem flat_some {o : Option Ob} {u : Ob} (e : flat? o = some u) : o = some u ∧ (∀ x, u ≠ .lls x) ∧ u ≠ .gone ∧ ∀ x y, u ≠ .dil x y := by
  unfold flat? at e
  split at e
  · cases e
  · cases e
  · cases e
  · rename_i z z' z''
    refine ⟨e, fun x w => ?_, fun w => ?_, fun x y w => ?_⟩
    · subst w
      exact z x e
    · subst w
      exact z' e
    · subst w
      exact z'' x y e
def splitA : List Bool → List Sl → Hs → Option (List PyData × List Nat × Hs × List Nat)
  | [], [], _ => some ([], [], [], [])
  | false :: io, s :: ss, h => match dat0 s h, splitA io ss h with
    | some d, some (ds, ns, os, vw) => some (d :: ds, ns, os, match s with
      | .loc n => n :: vw
      | _ => vw)
    | _, _ => none
  | true :: io, .loc n :: ss, h => match flat? h[n]?, splitA io ss h with
    | some o, some (ds, ns, os, vw) => some (ds, n :: ns, o :: os, vw)
    | _, _ => none
  | _, _, _ => none
def putObs : List Nat → Hs → Hs → Hs
  | n :: ns, o :: os, h => putObs ns os (h.set n o)
  | _, _, h => h
def obNoL : Ob → Bool
  | .lls _ => false
  | .dil _ _ => false
  | .dtp _ => true
  | .dtq _ => false
  | .gone => true
  | .lst ds => noLs ds
  | .dic kvs => noLs (kvs.map (·.2))
def apartN : List Nat → List Nat → Bool
  | [], _ => true
  | n :: ns, vw => !(ns.contains n) && !(vw.contains n) && apartN ns vw
/-- a call's outcome in the caller -/
def callF (m : Fm) (io : List Bool) (fr : Bool) (ss : List Sl) (h : Hs) : Rz Sl := match splitA io ss h with
  | some (ds, ns, os, vw) => if apartN ns vw = true ∧ (vw = [] ∨ fr = true) then (match m ds os with
      | .ok d os' => if vw = [] ∨ os'.all obNoL = true then .ok (.val d) (putObs ns os' h) else .bad
      | .err x os' => if vw = [] ∨ (os'.all obNoL = true ∧ noLs (x.fs.map (·.2)) = true) then .err x (putObs ns os' h) else .bad
      | .bad => .bad) else .bad
  | none => .bad
def eCall (m : Fm) (io : List Bool) (fr : Bool) (fa : Av) : Ev := fun env h => (fa env h).bind fun ss h => callF m io fr ss h
/-- .. whose list becomes one of the def's own -/
def callN (m : Fm) (io : List Bool) (ss : List Sl) (h : Hs) : Rz Sl := match splitA io ss h with
  | some (ds, ns, os, vw) => if apartN ns vw = true then (match m ds os with
      | .ok (.list ls) os' => if os'.all obNoL = true then .ok (.loc h.length) (putObs ns os' h ++ [.lst ls]) else .bad
      | .err x os' => if vw = [] ∨ (os'.all obNoL = true ∧ noLs (x.fs.map (·.2)) = true) then .err x (putObs ns os' h) else .bad
      | _ => .bad) else .bad
  | none => .bad
def eCallN (m : Fm) (io : List Bool) (fa : Av) : Ev := fun env h => (fa env h).bind fun ss h => callN m io ss h
section
variable {K : PySem.W.Frag} {H : Hp} {M M' : Ms}
mutual
theorem Rp.noLists (t : ∀ a xs, QT K H M a xs → QT K H M' a xs) : ∀ (d : PyData) (v : V), noL d = true → Rp K H M v d → Rp K H M' v d
  | .none, _, _, h => by cases h; exact .non
  | .bool b, _, _, h => by cases h; exact .bl b
  | .int i, _, _, h => by cases h; exact .int i
  | .str x, _, _, h => by cases h; exact .str x
  | .list ds, _, e, h => by simp [noL] at e
  | .tuple ds, _, e, h => by
    cases h with
    | tup q ra => exact .tup (t _ _ q) (RpAll.noLists t ds _ (by simpa [noL] using e) ra)
  | .dict _, _, e, h => by simp [noL] at e
theorem RpAll.noLists (t : ∀ a xs, QT K H M a xs → QT K H M' a xs) : ∀ (ds : List PyData) (vs : List V), noLs ds = true → RpAll K H M vs ds → RpAll K H M' vs ds
  | [], _, _, h => by cases h; exact .nil
  | d :: ds, _, e, h => by
    have e' : noL d = true ∧ noLs ds = true := by simpa [noLs] using e
    cases h with
    | cons r ra => exact .cons (Rp.noLists t d _ e'.1 r) (RpAll.noLists t ds _ e'.2 ra)
end
end
section
variable {K : PySem.W.Frag} {C : Fc} {ρ : Fps} {H : Hp} {h : Hs}
/-- the roots of some objects -/
def Roots (ρ : Fps) (ns : List Nat) (ad : List Addr) : Prop := Paired (fun (n : Nat) (a : Addr) => ρ[n]? = some [a]) ns ad
/-- what a callee may not hand on: the caller's other objects -/
def BarOf (C : Fc) (ρ : Fps) (ad vr : List Addr) : Ms := fun b => (b ∈ ρ.flatten ∧ b ∉ ad ∧ b ∉ vr) ∨ C.Bar b
theorem ob_root {n : Nat} {fp : List Addr} {o : Ob} (S : SimH K C ρ h H) (e : ρ[n]? = some fp) (e' : h[n]? = some o) (nl : (∀ x, o ≠ .lls x) ∧ o ≠ .gone ∧ ∀ x y, o ≠ .dil x y) : ∃ a, fp = [a] := by
  have x := S.obj n fp o e e'
  cases o with
  | lst ds => obtain ⟨a, _, rfl, _⟩ := x; exact ⟨a, rfl⟩
  | dic ds => obtain ⟨a, _, rfl, _⟩ := x; exact ⟨a, rfl⟩
  | lls ds => exact absurd rfl (nl.1 ds)
  | dil ds ks => exact absurd rfl (nl.2.2 ds ks)
  | dtp ks => obtain ⟨a, rfl, _⟩ := x; exact ⟨a, rfl⟩
  | dtq ks => obtain ⟨a, _, rfl, _⟩ := x; exact ⟨a, rfl⟩
  | gone => exact absurd rfl nl.2.1
/-- the roots of the objects that are handed over -/
theorem split_roots (S : SimH K C ρ h H) : ∀ {io : List Bool} {ss : List Sl} {vs : List V} {ds : List PyData} {ns : List Nat} {os : Hs} {vw : List Nat}, SlVs K C ρ H vs ss → splitA io ss h = some (ds, ns, os, vw) →
    ∃ ad vr, Roots ρ ns ad ∧ Roots ρ vw vr ∧ (∀ a ∈ vr, ∃ xs, H a = some (.lst xs)) ∧ ∀ M : Ms, (∀ b, M b → Mo C ρ b) → (∀ a ∈ vr, ¬ M a) → ArgsOk K H M io vs ds os ad
  | [], [], vs, ds, ns, os, vw, r, e => by
    have e' : some (([] : List PyData), ([] : List Nat), ([] : Hs), ([] : List Nat)) = some (ds, ns, os, vw) := e
    cases e'
    cases r
    exact ⟨[], [], .nil, .nil, fun a m => (by cases m), fun _ _ _ => .nil⟩
  | false :: io, s :: ss, vs, ds, ns, os, vw, r, e => by
    unfold splitA at e
    split at e
    · rename_i d ds' ns' os' vw' e1 e2
      cases e
      cases r with
      | cons r1 r2 =>
        obtain ⟨ad, vr, ha, hv, hl, k⟩ := split_roots S r2 e2
        cases s with
        | val d0 =>
          have ed : some d0 = some d := e1
          cases ed
          exact ⟨ad, vr, ha, hv, hl, fun M hM hn => .val (Rp.fewer hM r1) (k M hM hn)⟩
        | loc n =>
          obtain ⟨fp, a, q1, q2, rfl⟩ := r1
          have e1' : (match h[n]? with
            | some (.lst ds) => some (.list ds)
            | _ => none) = some d := e1
          split at e1'
          · rename_i ls e3
            cases e1'
            obtain ⟨q1', ws, hw, ra⟩ := S.lst q1 q2 e3
            refine ⟨ad, a :: vr, ha, .cons q1' hv, fun b hb => (List.mem_cons.mp hb).elim (fun z => ⟨ws, z ▸ hw⟩) (hl b), fun M hM hn => .val (.lst (.inl ⟨.inl hw, hn a (by simp)⟩) (ra.fewer hM)) (k M hM fun b hb => hn b (by simp [hb]))⟩
          · cases e1'
        | inn n i => cases e1
        | exn x => cases e1
    · cases e
  | true :: io, .loc n :: ss, vs, ds, ns, os, vw, r, e => by
    unfold splitA at e
    split at e
    · rename_i o ds' ns' os' vw' e1 e2
      cases e
      cases r with
      | cons r1 r2 =>
        obtain ⟨ad, vr, ha, hv, hl, k⟩ := split_roots S r2 e2
        obtain ⟨fp, a, q1, q2, rfl⟩ := r1
        obtain ⟨e1, nl⟩ := flat_some e1
        obtain ⟨b, rfl⟩ := ob_root S q1 e1 nl
        cases q2
        exact ⟨a :: ad, vr, .cons q1 ha, hv, hl, fun M hM hn => .obj (ObOk.fewer hM (S.obj n [a] o q1 e1)) (k M hM hn)⟩
    · cases e
  | true :: _, .val _ :: _, _, _, _, _, _, _, e => by simp [splitA] at e
  | true :: _, .inn _ _ :: _, _, _, _, _, _, _, e => by simp [splitA] at e
  | true :: _, .exn _ :: _, _, _, _, _, _, _, e => by simp [splitA] at e
  | [], _ :: _, _, _, _, _, _, _, e => by simp [splitA] at e
  | false :: _, [], _, _, _, _, _, _, e => by simp [splitA] at e
  | true :: _, [], _, _, _, _, _, _, e => by simp [splitA] at e
theorem Roots.mem {ns : List Nat} {ad : List Addr} (r : Roots ρ ns ad) : ∀ a ∈ ad, a ∈ ρ.flatten := by
  induction r with
  | nil => intro a h; cases h
  | cons e t ih =>
    intro a h
    rcases List.mem_cons.mp h with z | z
    · subst z; exact flat_at e (by simp)
    · exact ih a z
theorem Roots.ix {ns : List Nat} {ad : List Addr} (r : Roots ρ ns ad) : ∀ a ∈ ad, ∃ n ∈ ns, ρ[n]? = some [a] := by
  induction r with
  | nil => intro a h; cases h
  | @cons n b _ _ e t ih =>
    intro a h
    rcases List.mem_cons.mp h with z | z
    · subst z; exact ⟨n, by simp, e⟩
    · obtain ⟨m, hm, q⟩ := ih a z
      exact ⟨m, by simp [hm], q⟩
theorem apart_nodup (nd : ρ.flatten.Nodup) {vw : List Nat} : ∀ {ns : List Nat} {ad : List Addr}, Roots ρ ns ad → apartN ns vw = true → ad.Nodup ∧ (∀ n ∈ ns, n ∉ vw) ∧ ns.Nodup
  | [], _, .nil, _ => ⟨by simp, by simp, by simp⟩
  | n :: ns, _, .cons (b := a) e t, h => by
    have h' : ns.contains n = false ∧ vw.contains n = false ∧ apartN ns vw = true := by
      simp only [apartN, Bool.and_eq_true, Bool.not_eq_true'] at h
      exact ⟨h.1.1, h.1.2, h.2⟩
    have hn : n ∉ ns := fun m => by
      have := List.contains_iff_mem.mpr m
      rw [h'.1] at this; cases this
    have hv : n ∉ vw := fun m => by
      have := List.contains_iff_mem.mpr m
      rw [h'.2.1] at this; cases this
    obtain ⟨i1, i2, i3⟩ := apart_nodup nd t h'.2.2
    refine ⟨List.nodup_cons.mpr ⟨fun m => ?_, i1⟩, fun k hk => ?_, List.nodup_cons.mpr ⟨hn, i3⟩⟩
    · obtain ⟨j, hj, ej⟩ := Roots.ix t a m
      have := nodup_apart (a := a) nd e ej (by simp) (by simp)
      subst this
      exact hn hj
    · rcases List.mem_cons.mp hk with z | z
      · subst z; exact hv
      · exact i2 k z
theorem putObs_len : ∀ (ns : List Nat) (os : Hs) (h : Hs), (putObs ns os h).length = h.length
  | [], _, _ => rfl
  | _ :: _, [], _ => rfl
  | n :: ns, o :: os, h => by
    show (putObs ns os (h.set n o)).length = _
    rw [putObs_len ns os, List.length_set]
theorem putObs_get : ∀ {ns : List Nat} {ad : List Addr} {os : Hs} {h : Hs} {k : Nat} {o : Ob}, Roots ρ ns ad → ns.Nodup → (putObs ns os h)[k]? = some o → (k ∉ ns ∧ h[k]? = some o) ∨ (∃ (j : Nat) (a : Addr), ad[j]? = some a ∧ ρ[k]? = some [a] ∧ os[j]? = some o) ∨ os.length < ns.length
  | [], _, os, h, k, o, _, _, e => .inl ⟨by simp, e⟩
  | n :: ns, _, [], h, k, o, _, _, e => .inr (.inr (by simp))
  | n :: ns, _, o' :: os, h, k, o, .cons (b := a) q t, nd, e => by
    have e' : (putObs ns os (h.set n o'))[k]? = some o := e
    obtain ⟨nn, nd'⟩ := List.nodup_cons.mp nd
    rcases putObs_get t nd' e' with ⟨hk, e1⟩ | ⟨j, b, e1, e2, e3⟩ | hl
    · by_cases z : n = k
      · subst z
        rw [List.getElem?_set, if_pos rfl] at e1
        split at e1
        · cases e1
          exact .inr (.inl ⟨0, a, rfl, q, rfl⟩)
        · cases e1
      · rw [List.getElem?_set_ne z] at e1
        exact .inl ⟨fun m => by
          rcases List.mem_cons.mp m with w | w
          · exact z w.symm
          · exact hk w, e1⟩
    · exact .inr (.inl ⟨j + 1, b, by simpa using e1, e2, by simpa using e3⟩)
    · exact .inr (.inr (by simp; omega))
/-- tuples avoid the objects that lists are -/
theorem QT.of_lists {M M' : Ms} {H : Hp} (hl : ∀ b, M' b → M b ∨ ∃ xs, H b = some (.lst xs)) (a : Addr) (xs : List V) (q : QT K H M a xs) : QT K H M' a xs := by
  rcases q with ⟨r, n⟩ | q
  · refine .inl ⟨r, fun m => ?_⟩
    rcases hl a m with z | ⟨ys, z⟩
    · exact n z
    · rcases r with r | ⟨o, r⟩ <;> (rw [z] at r; cases r)
  · exact .inr q
theorem ObOk.noLists {M M' : Ms} {fp : List Addr} {o : Ob} {H : Hp} (t : ∀ a xs, QT K H M a xs → QT K H M' a xs) (e : obNoL o = true) (x : ObOk K H M fp o) : ObOk K H M' fp o := by
  cases o with
  | lst ds =>
    obtain ⟨a, vs, rfl, q, r⟩ := x
    exact ⟨a, vs, rfl, q, RpAll.noLists t _ _ e r⟩
  | dic kvs =>
    obtain ⟨a, vs, rfl, q, z, r⟩ := x
    exact ⟨a, vs, rfl, q, z, RpAll.noLists t _ _ e r⟩
  | lls dss => cases e
  | dil _ _ => cases e
  | dtp _ => exact x
  | dtq _ => cases e
  | gone => exact x
theorem FrmK.nt {T : List (Addr × Str)} {ad : List Addr} {H H' : Hp} (f : FrmK T ad H H') : ∀ b o, H b = some o → b ∉ ad → NT o → H' b = some o := fun b o e n t => by
  obtain ⟨o', e', k⟩ := f.1 b o e n
  rw [e', k.nt t]
theorem FrmK.some {T : List (Addr × Str)} {ad : List Addr} {H H' : Hp} (f : FrmK T ad H H') {b : Addr} {o : HO} (e : H b = some o) (n : b ∉ ad) : ∃ o', H' b = some o' := by
  obtain ⟨o', e', _⟩ := f.1 b o e n
  exact ⟨o', e'⟩
/-- behind a call: the caller's state -/
theorem call_after {C2 : Fc} {ad vr : List Addr} {ns vw : List Nat} {os' : Hs} {H' : Hp} {D : Ms} (S : SimH K C ρ h H) (ha : Roots ρ ns ad) (hv : Roots ρ vw vr) (hvl : ∀ a ∈ vr, ∃ xs, H a = some (.lst xs)) (nd : ns.Nodup) (dj : ∀ n ∈ ns, n ∉ vw)
    (hf : FrmK C.T ad H H') (oo : OsOk K H' (Ma ad (BarOf C ρ ad vr)) ad os') (hn : vw = [] ∨ os'.all obNoL = true) (e0 : C2 = { C with Bar := fun a => C.Bar a ∨ D a }) (hD : ∀ b, D b → H b = none ∧ (∃ o, H' b = some o) ∧ os'.all obNoL = true) (hDl : ∀ b, D b → ∃ xs, H' b = some (.lst xs)) :
    SimH K C2 ρ (putObs ns os' h) H' ∧ Stp (Mo C ρ) H (Mo C2 ρ) H' := by
  have adm : ∀ b ∈ ad, b ∈ ρ.flatten := ha.mem
  have fr := hf.nt
  have lens : ns.length = ad.length := Paired.length ha
  have Mo2 : ∀ b, Mo C2 ρ b → Mo C ρ b ∨ D b := fun b m => by
    subst e0
    rcases m with m | m | m
    · exact .inl (.inl m)
    · exact .inl (.inr m)
    · exact .inr m
  have st : Stp (Mo C ρ) H (Mo C2 ρ) H' := ⟨fun b o e n => hf.1 b o e fun m => n (.inl (adm b m)), fun b m => by
    rcases Mo2 b m with m | m
    · exact .inl m
    · exact .inr (hD b m).1⟩
  have trk' : ∀ b ∈ ρ.flatten, ∃ o, H' b = some o := fun b m => by
    by_cases hb : b ∈ ad
    · obtain ⟨j, hj, ej⟩ := List.getElem_of_mem hb
      have h2 : j < os'.length := by rw [← oo.1]; exact hj
      exact (oo.2 j b os'[j] (by rw [← ej]; exact List.getElem?_eq_getElem hj) (List.getElem?_eq_getElem h2)).trk b (by simp)
    · obtain ⟨o, e⟩ := S.trk b m
      exact hf.some e hb
  refine ⟨⟨by rw [putObs_len]; exact S.len, S.nd, trk', fun k fp o e1 e2 => ?_, fun b o e n => ?_, fun b m => by subst e0; exact S.own b m, fun b m => ?_, fun b m => ?_, fun n fp e => by subst e0; exact S.pre n fp e, by subst e0; exact hf.2, fun b xs m z => ?_⟩, st⟩
  · rcases putObs_get ha nd e2 with ⟨hk, e3⟩ | ⟨j, a, q1, q2, q3⟩ | hl
    · refine ObOk.stp st (fun b m => ?_) (S.obj k fp o e1 e3)
      have nb : b ∉ ad := fun z => by
        obtain ⟨n, hn', en⟩ := ha.ix b z
        have := nodup_apart S.nd en e1 (by simp) m
        subst this
        exact hk hn'
      obtain ⟨u, eu, nu⟩ := (S.obj k fp o e1 e3).nte m
      rw [eu]
      exact fr b u eu nb nu.1
    · rw [q2] at e1
      cases e1
      have x := oo.2 j a o q1 q3
      rcases hn with hn | hn
      · subst hn
        cases hv
        by_cases hd : ∃ b, D b
        · obtain ⟨b0, hb0⟩ := hd
          refine ObOk.noLists (fun a' xs' => QT.of_lists (fun b m => ?_) a' xs') (List.all_eq_true.mp (hD b0 hb0).2.2 o (List.mem_of_getElem? q3)) x
          rcases Mo2 b m with m | m
          · rcases m with m | m
            · by_cases hb : b ∈ ad
              · exact .inl (.inl hb)
              · exact .inl (.inr (.inl ⟨m, hb, by simp⟩))
            · exact .inl (.inr (.inr m))
          · exact .inr (hDl b m)
        · refine ObOk.fewer (fun b m => ?_) x
          rcases Mo2 b m with m | m
          · rcases m with m | m
            · by_cases hb : b ∈ ad
              · exact .inl hb
              · exact .inr (.inl ⟨m, hb, by simp⟩)
            · exact .inr (.inr m)
          · exact absurd ⟨b, m⟩ hd
      · refine ObOk.noLists (fun a' xs' => QT.of_lists (fun b m => ?_) a' xs') (List.all_eq_true.mp hn o (List.mem_of_getElem? q3)) x
        rcases Mo2 b m with m | m
        · rcases m with m | m
          · by_cases hb : b ∈ ad
            · exact .inl (.inl hb)
            · by_cases hb2 : b ∈ vr
              · right
                obtain ⟨xs, ex⟩ := hvl b hb2
                exact ⟨xs, fr b _ ex hb nt_lst⟩
              · exact .inl (.inr (.inl ⟨m, hb, hb2⟩))
          · exact .inl (.inr (.inr m))
        · exact .inr (hDl b m)
    · rw [← oo.1, ← lens] at hl
      omega
  · subst e0
    obtain ⟨o1, e1, k1⟩ := S.frK b o e n
    obtain ⟨o2, e2, k2⟩ := hf.1 b o1 e1 fun m => by
      rcases S.own b (adm b m) with z | z
      · exact n z
      · rw [e] at z; cases z
    exact ⟨o2, e2, k1.trans k2⟩
  · subst e0
    rcases m with m | m
    · obtain ⟨q1, o, q2⟩ := S.bar b m
      exact ⟨q1, hf.some q2 fun z => q1 (adm b z)⟩
    · obtain ⟨q1, q2, _⟩ := hD b m
      refine ⟨fun z => ?_, q2⟩
      obtain ⟨o, e⟩ := S.trk b z
      rw [q1] at e; cases e
  · subst e0
    by_cases hb : b ∈ ad
    · exact trk' b (adm b hb)
    · obtain ⟨o, e⟩ := S.wtr b m
      exact hf.some e hb
  · subst e0
    rcases m with m | m
    · obtain ⟨q1, o, q2⟩ := S.bar b m
      obtain ⟨o', e', k⟩ := hf.1 b o q2 fun w => q1 (adm b w)
      rw [z] at e'
      cases e'
      rcases k with k | ⟨p, q, _, k⟩
      · exact S.bnt b xs m (by rw [q2, k])
      · exact xs.ntbl k
    · obtain ⟨ys, e⟩ := hDl b m
      rw [z] at e; exact xs.nlst (Option.some.inj e)
/-- the caller's bar -/
theorem bar_of (S : SimH K C ρ h H) {ad vr : List Addr} (hm : ∀ a ∈ ad, a ∈ ρ.flatten) : BarOk H ad (BarOf C ρ ad vr) := ⟨fun b m => by
  rcases m with ⟨m, n, _⟩ | m
  · exact ⟨n, S.trk b m⟩
  · exact ⟨fun z => (S.bar b m).1 (hm b z), (S.bar b m).2⟩, fun b xs m z => S.freeX z (by
  rcases m with ⟨m, _⟩ | m
  · exact .inl m
  · exact .inr m)⟩
/-- what a call wants -/
theorem sp_call {mg : Str → Option Value} {Wx : WX} {σ : St} {m : Fm} {io : List Bool} {fr : Bool} {ss : List Sl} {vs : List V} {Q : VK} (S : SimH K C ρ h H) (r : SlVs K C ρ H vs ss) (P : Po K mg C Wx σ ρ H (relE K C) (callF m io fr ss h) Q) :
    spOf K mg C.T fr io m vs H Q fun cls d H' => Wx cls d σ H' := by
  unfold callF at P
  cases e : splitA io ss h with
  | none => rw [e] at P; exact P.elim
  | some q =>
    obtain ⟨ds, ns, os, vw⟩ := q
    rw [e] at P
    dsimp only at P
    by_cases c : apartN ns vw = true ∧ (vw = [] ∨ fr = true)
    · rw [if_pos c] at P
      obtain ⟨ad, vr, ha, hv, hvl, k⟩ := split_roots S r e
      obtain ⟨nda, dj, ndn⟩ := apart_nodup S.nd ha c.1
      have adm := ha.mem
      have vdj : ∀ b ∈ vr, b ∉ ad := fun b hb z => by
        obtain ⟨n1, h1, e1⟩ := hv.ix b hb
        obtain ⟨n2, h2, e2⟩ := ha.ix b z
        have := nodup_apart (a := b) S.nd e2 e1 (by simp) (by simp)
        subst this
        exact dj n2 h2 h1
      have barv : ∀ b ∈ vr, ¬ Ma ad (BarOf C ρ ad vr) b := fun b hb z => by
        rcases z with z | ⟨_, _, z⟩ | z
        · exact vdj b hb z
        · exact z hb
        · exact (S.bar b z).1 (hv.mem b hb)
      have sub : ∀ b, Ma ad (BarOf C ρ ad vr) b → Mo C ρ b := fun b z => by
        rcases z with z | ⟨z, _, _⟩ | z
        · exact .inl (adm b z)
        · exact .inl z
        · exact .inr z
      refine ⟨ad, BarOf C ρ ad vr, ds, os, S.tab, k _ sub barv, nda, bar_of S adm, ?_⟩
      -- the other way round, where nothing is only looked at
      have sup : vw = [] → ∀ b, Mo C ρ b → Ma ad (BarOf C ρ ad vr) b := fun hw b z => by
        subst hw
        cases hv
        rcases z with z | z
        · by_cases hb : b ∈ ad
          · exact .inl hb
          · exact .inr (.inl ⟨z, hb, by simp⟩)
        · exact .inr (.inr z)
      have tups : ∀ {H' : Hp}, FrmK C.T ad H H' → ∀ a xs, QT K H' (Ma ad (BarOf C ρ ad vr)) a xs → QT K H' (Mo C ρ) a xs := fun {H'} hf => QT.of_lists fun b z => by
        rcases z with z | z
        · by_cases hb : b ∈ ad
          · exact .inl (.inl hb)
          · by_cases hb2 : b ∈ vr
            · obtain ⟨xs, ex⟩ := hvl b hb2
              exact .inr ⟨xs, hf.nt b _ ex hb nt_lst⟩
            · exact .inl (.inr (.inl ⟨z, hb, hb2⟩))
        · exact .inl (.inr (.inr z))
      cases q : m ds os with
      | bad => rw [q] at P; exact P.elim
      | ok d os' =>
        rw [q] at P
        dsimp only at P
        intro v H' hf oo rv hfr
        by_cases c2 : vw = [] ∨ os'.all obNoL = true
        · rw [if_pos c2] at P
          obtain ⟨S', st⟩ := call_after (C2 := { C with Bar := fun a => C.Bar a ∨ False }) (D := fun _ => False) S ha hv hvl ndn dj hf oo c2 rfl (fun _ z => z.elim) (fun _ z => z.elim)
          have eC : ({ C with Bar := fun a => C.Bar a ∨ False } : Fc) = C := by
            cases C
            simp
          rw [eC] at S' st
          refine P ρ v H' ⟨st, fun n fp e => ⟨fp, e, pfx_rfl⟩⟩ S' ?_
          rcases c.2 with hw | hw
          · exact Rp.fewer (sup hw) rv
          · rcases hfr hw with z | ⟨a, ws, ls, rfl, rfl, n0, e1, ra, z⟩
            · exact Rp.noLists (tups hf) d v z rv
            · refine .lst (.inl ⟨.inl e1, fun mm => ?_⟩) (RpAll.noLists (tups hf) ls ws z ra)
              obtain ⟨o, eo⟩ := S.trkM mm
              rw [n0] at eo; cases eo
        · rw [if_neg c2] at P; exact P.elim
      | err x os' =>
        rw [q] at P
        dsimp only at P
        intro H' cls d hf oo xn
        by_cases c2 : vw = [] ∨ (os'.all obNoL = true ∧ noLs (x.fs.map (·.2)) = true)
        · rw [if_pos c2] at P
          obtain ⟨S', st⟩ := call_after (C2 := { C with Bar := fun a => C.Bar a ∨ False }) (D := fun _ => False) S ha hv hvl ndn dj hf oo (c2.imp id And.left) rfl (fun _ z => z.elim) (fun _ z => z.elim)
          have eC : ({ C with Bar := fun a => C.Bar a ∨ False } : Fc) = C := by
            cases C
            simp
          rw [eC] at S' st
          refine P ρ H' cls d ⟨st, fun n fp e => ⟨fp, e, pfx_rfl⟩⟩ S' ⟨xn.1, xn.2.imp id fun ⟨nf, da, ws, h1, h2, h3, h4⟩ => ⟨nf, da, ws, h1, h2, h3, ?_⟩⟩
          rcases c2 with hw | hw
          · exact h4.fewer (sup hw)
          · exact RpAll.noLists (tups hf) _ _ hw.2 h4
        · rw [if_neg c2] at P; exact P.elim
    · rw [if_neg c] at P; exact P.elim
/-- .. whose list becomes one of the caller's own -/
theorem sp_callN {mg : Str → Option Value} {Wx : WX} {σ : St} {m : Fm} {io : List Bool} {ss : List Sl} {vs : List V} {Q : VK} (S : SimH K C ρ h H) (r : SlVs K C ρ H vs ss) (P : Po K mg C Wx σ ρ H (relE K C) (callN m io ss h) Q) :
    spOf K mg C.T true io m vs H Q fun cls d H' => Wx cls d σ H' := by
  unfold callN at P
  cases e : splitA io ss h with
  | none => rw [e] at P; exact P.elim
  | some q =>
    obtain ⟨ds, ns, os, vw⟩ := q
    rw [e] at P
    dsimp only at P
    by_cases c : apartN ns vw = true
    · rw [if_pos c] at P
      obtain ⟨ad, vr, ha, hv, hvl, k⟩ := split_roots S r e
      obtain ⟨nda, dj, ndn⟩ := apart_nodup S.nd ha c
      have adm := ha.mem
      have vdj : ∀ b ∈ vr, b ∉ ad := fun b hb z => by
        obtain ⟨n1, h1, e1⟩ := hv.ix b hb
        obtain ⟨n2, h2, e2⟩ := ha.ix b z
        have := nodup_apart (a := b) S.nd e2 e1 (by simp) (by simp)
        subst this
        exact dj n2 h2 h1
      have barv : ∀ b ∈ vr, ¬ Ma ad (BarOf C ρ ad vr) b := fun b hb z => by
        rcases z with z | ⟨_, _, z⟩ | z
        · exact vdj b hb z
        · exact z hb
        · exact (S.bar b z).1 (hv.mem b hb)
      have sub : ∀ b, Ma ad (BarOf C ρ ad vr) b → Mo C ρ b := fun b z => by
        rcases z with z | ⟨z, _, _⟩ | z
        · exact .inl (adm b z)
        · exact .inl z
        · exact .inr z
      refine ⟨ad, BarOf C ρ ad vr, ds, os, S.tab, k _ sub barv, nda, bar_of S adm, ?_⟩
      have sup : vw = [] → ∀ b, Mo C ρ b → Ma ad (BarOf C ρ ad vr) b := fun hw b z => by
        subst hw
        cases hv
        rcases z with z | z
        · by_cases hb : b ∈ ad
          · exact .inl hb
          · exact .inr (.inl ⟨z, hb, by simp⟩)
        · exact .inr (.inr z)
      have tups : ∀ {H' : Hp} {D : Ms}, (∀ b, D b → ∃ xs, H' b = some (.lst xs)) → FrmK C.T ad H H' → ∀ a xs, QT K H' (Ma ad (BarOf C ρ ad vr)) a xs → QT K H' (fun b => Mo C ρ b ∨ D b) a xs := fun {H' D} hd hf => QT.of_lists fun b z => by
        rcases z with (z | z) | z
        · by_cases hb : b ∈ ad
          · exact .inl (.inl hb)
          · by_cases hb2 : b ∈ vr
            · obtain ⟨xs, ex⟩ := hvl b hb2
              exact .inr ⟨xs, hf.nt b _ ex hb nt_lst⟩
            · exact .inl (.inr (.inl ⟨z, hb, hb2⟩))
        · exact .inl (.inr (.inr z))
        · exact .inr (hd b z)
      cases q : m ds os with
      | bad => rw [q] at P; exact P.elim
      | ok d os' =>
        rw [q] at P
        intro v H' hf oo rv hfr
        cases d with
        | list ls =>
          dsimp only at P
          by_cases c2 : os'.all obNoL = true
          · rw [if_pos c2] at P
            rcases hfr rfl with z | ⟨a, ws, ls', rfl, ed, n0, e1, ra, z⟩
            · simp [noL] at z
            · cases ed
              obtain ⟨S', st⟩ := call_after (C2 := C.plus a) (D := fun b => b = a) S ha hv hvl ndn dj hf oo (.inr c2) rfl (fun b z => by subst z; exact ⟨n0, ⟨_, e1⟩, c2⟩) (fun b z => by subst z; exact ⟨_, e1⟩)
              have ra' : RpAll K H' (Mo (C.plus a) ρ) ws ls := RpAll.fewer (fun b z => by
                rcases z with z | z | z
                · exact .inl (.inl z)
                · exact .inl (.inr z)
                · exact .inr z) (RpAll.noLists (tups (D := fun b => b = a) (fun b z => by subst z; exact ⟨_, e1⟩) hf) ls ws z ra)
              have h0 : C.H0 a = none := by
                cases q0 : C.H0 a with
                | none => rfl
                | some o =>
                  by_cases hw : a ∈ C.W.flatten
                  · obtain ⟨o', e'⟩ := S.wtr a hw
                    rw [n0] at e'; cases e'
                  · obtain ⟨o', e', _⟩ := S.frK a o q0 hw
                    rw [n0] at e'; cases e'
              have nb : ¬ C.Bar a := fun b => by
                obtain ⟨_, o, e'⟩ := S.bar a b
                rw [n0] at e'; cases e'
              have S2 := S'.adopt (ob := .lst ls) h0 nb ⟨a, ws, rfl, e1, ra'⟩
              refine P (ρ ++ [[a]]) (.ref a) H' ⟨⟨st.keepK, fun b mm => st.new b (Mo.adopt.mp mm)⟩, fun n fp e => ⟨fp, by
                rw [List.getElem?_append_left (List.getElem?_eq_some_iff.mp e).1]; exact e, pfx_rfl⟩⟩ S2 ?_
              rw [← S.len]
              exact SlV.pushed _
          · rw [if_neg c2] at P; exact P.elim
        | _ => exact P.elim
      | err x os' =>
        rw [q] at P
        dsimp only at P
        intro H' cls d hf oo xn
        by_cases c2 : vw = [] ∨ (os'.all obNoL = true ∧ noLs (x.fs.map (·.2)) = true)
        · rw [if_pos c2] at P
          obtain ⟨S', st⟩ := call_after (C2 := { C with Bar := fun a => C.Bar a ∨ False }) (D := fun _ => False) S ha hv hvl ndn dj hf oo (c2.imp id And.left) rfl (fun _ z => z.elim) (fun _ z => z.elim)
          have eC : ({ C with Bar := fun a => C.Bar a ∨ False } : Fc) = C := by
            cases C
            simp
          rw [eC] at S' st
          refine P ρ H' cls d ⟨st, fun n fp e => ⟨fp, e, pfx_rfl⟩⟩ S' ⟨xn.1, xn.2.imp id fun ⟨nf, da, ws, h1, h2, h3, h4⟩ => ⟨nf, da, ws, h1, h2, h3, ?_⟩⟩
          rcases c2 with hw | hw
          · exact h4.fewer (sup hw)
          · exact RpAll.fewer (fun b z => .inl z) (RpAll.noLists (tups (D := fun _ => False) (fun _ z => z.elim) hf) _ _ hw.2 h4)
        · rw [if_neg c2] at P; exact P.elim
    · rw [if_neg c] at P; exact P.elim
end
section
variable {X : Cx} {C : Fc} {Wx : WX} {k : Nat} {f : Addr} {fd : FuncData} {ps : List Str} {m : Fm} {io : List Bool} {fr : Bool} {x : Str} {p pos : Pos} {e : Expr} {es : List Expr} {fa : Av}
theorem run_fnG {pins : List (Addr × Obj)} {σ : St} {H : Hp} {s : Shared} {Q : VK} {us : List Value} {vs : List V} {sp : Sp} (F : FnG X.prog X.w X.K X.mg X.base (L2.CX X.prog X.w) k f fd ps sp) (hgd : X.A.guards = some []) (hr : Room k X.A) (hb : Binds X.K fd ps []) (tk : Takes X Wx)
    (I : Inv X pins σ H s) (r : Vals vs us) (h : sp vs H Q fun cls d H' => Wx cls d σ H') : wpAny (model X.prog X.w) X.A (call (.ref f) us) (EP X pins σ Q) X.xe s := by
  have hl : us.length = ps.length := by rw [← r.length]; exact F.len _ _ _ _ h
  have b := hb s us I.kIn (by rw [List.append_nil]; exact hl)
  rw [List.append_nil] at b
  refine wpAny_call (codeAny_mono (F.run X.A X.stack s H ⟨us, []⟩ us vs Q _ hgd hr I.env0 b r h) ?_)
  rintro (er | fl) s' hq
  · exact tk _ s' (XE.of_call I (fun _ _ _ w => w) hq)
  · cases fl with
    | ret u => exact I.after hq
    | _ => exact False.elim hq
theorem fe_callG {g : List Sl → Hs → Rz Sl} {sp : Sp} (F : FnG X.prog X.w X.K X.mg X.base (L2.CX X.prog X.w) k f fd ps sp) (hgd : X.A.guards = some []) (hr : Room k X.A) (tk : Takes X Wx) (hg : Gl X x) (hm : X.mg x = some (.ref f)) (hk : PySem.W.keepIn X.K (.ref f) = true) (hb : Binds X.K fd ps [])
    (ha : FA X C Wx (e :: es) fa) (hsp : ∀ (σ : St) (ρ : Fps) (h : Hs) (H : Hp) (ss : List Sl) (vs : List V) (Q : VK), SimH X.K C ρ h H → SlVs X.K C ρ H vs ss → Po X.K X.mg C Wx σ ρ H (relE X.K C) (g ss h) Q → sp vs H Q fun cls d H' => Wx cls d σ H')
    (hdb : (x == ("__debug__" : Str)) = false := by decide) (he : starEach (e :: es) X.env = (false, eval e X.env) :: starEach es X.env := by rfl) (hpl : (backTo pos (starEach es X.env)).any (·.1) = false := by rfl) :
    FE X C Wx (.Call (.Name x p) (e :: es) [] pos) (fun env h => (fa env h).bind fun ss h => g ss h) := by
  refine ⟨fun pins s σ H Q I hh => wpAny_Call_Name_kw (ld_glob I hg hm ?_ hdb)⟩
  have h2 : rd X.K X.mg C Wx (relA X.K C) fa σ H fun vs H1 => sp vs H1 Q fun cls d H' => Wx cls d σ H' := rd.bind (f := fa) (g := fun ss _ h => g ss h) hh fun ρ1 env h1 ss vs H1 S1 E1 r1 P1 => hsp σ ρ1 h1 H1 ss vs Q S1 r1 P1
  refine PySem.W.callWith_K (h₀ := X.base) I.ok.mod.kin hk (thn (ha.run pos pins s σ H _ I h2) ?_) he hpl
  rintro us s1 ⟨vs, H1, I1, r, q⟩
  exact ⟨I1.kIn, run_fnG F hgd hr hb tk I1 r q⟩
theorem fe_call {T : List (Addr × Str)} (F : FnG X.prog X.w X.K X.mg X.base (L2.CX X.prog X.w) k f fd ps (spOf X.K X.mg T fr io m)) (hT : C.T = T) (hgd : X.A.guards = some []) (hr : Room k X.A) (tk : Takes X Wx) (hg : Gl X x) (hm : X.mg x = some (.ref f)) (hk : PySem.W.keepIn X.K (.ref f) = true) (hb : Binds X.K fd ps [])
    (ha : FA X C Wx (e :: es) fa) (hdb : (x == ("__debug__" : Str)) = false := by decide) (he : starEach (e :: es) X.env = (false, eval e X.env) :: starEach es X.env := by rfl) (hpl : (backTo pos (starEach es X.env)).any (·.1) = false := by rfl) :
    FE X C Wx (.Call (.Name x p) (e :: es) [] pos) (eCall m io fr fa) := fe_callG F hgd hr tk hg hm hk hb ha (fun σ ρ h H ss vs Q S r P => hT ▸ sp_call S r P) hdb he hpl
theorem fe_callN {T : List (Addr × Str)} (F : FnG X.prog X.w X.K X.mg X.base (L2.CX X.prog X.w) k f fd ps (spOf X.K X.mg T true io m)) (hT : C.T = T) (hgd : X.A.guards = some []) (hr : Room k X.A) (tk : Takes X Wx) (hg : Gl X x) (hm : X.mg x = some (.ref f)) (hk : PySem.W.keepIn X.K (.ref f) = true) (hb : Binds X.K fd ps [])
    (ha : FA X C Wx (e :: es) fa) (hdb : (x == ("__debug__" : Str)) = false := by decide) (he : starEach (e :: es) X.env = (false, eval e X.env) :: starEach es X.env := by rfl) (hpl : (backTo pos (starEach es X.env)).any (·.1) = false := by rfl) :
    FE X C Wx (.Call (.Name x p) (e :: es) [] pos) (eCallN m io fa) := fe_callG F hgd hr tk hg hm hk hb ha (fun σ ρ h H ss vs Q S r P => hT ▸ sp_callN S r P) hdb he hpl
end
end FL
namespace FL
open PySem PySem.Spec PyProof.Rows L2
/-- the script and empty tables are tracked -/
def headH (a : Addr) (scr : Option HO) (ts : List Addr) : Hp := fun b => if b = a then scr else if b ∈ ts then some (.tbl #[]) else none
theorem headH_some {a b : Addr} {scr : Option HO} {ts : List Addr} {u : HO} (na : a ∉ ts) (e : headH a scr ts b = some u) : (b = a ∧ scr = some u) ∨ (b ∈ ts ∧ u = .tbl #[]) := by
  unfold headH at e
  split at e
  · rename_i hb
    exact .inl ⟨hb, e⟩
  · split at e
    · rename_i hb
      cases e
      exact .inr ⟨hb, rfl⟩
    · cases e
theorem headH_tab {a b : Addr} {scr : Option HO} {ts : List Addr} (na : a ∉ ts) (hb : b ∈ ts) : headH a scr ts b = some (.tbl #[]) := by
  unfold headH
  rw [if_neg (fun z : b = a => na (z ▸ hb)), if_pos hb]
theorem rp_ints {K : PySem.W.Frag} {H : Hp} {M : Ms} : ∀ ns : List Int, RpAll K H M (ns.map V.int) (ns.map PyData.int)
  | [] => .nil
  | n :: r => .cons (.int n) (rp_ints r)
/-- what the head tells of the tables -/
structure TabsAt (h : Heap) (K : PySem.W.Frag) (cs : List (Addr × Addr)) : Prop where
  at_ : ∀ p ∈ cs, h.get? p.2 = some { cls := .none, data := .fields #[] }
  noK : ∀ p ∈ cs, K.lookup p.2 = none
  code : ∀ p ∈ cs, PySem.W.CodeHd h p.1 p.2
/-- the run of the law from a state in which no more than the script and the tables are tracked -/
theorem lawG_core {P : Program} {w : World} {K : PySem.W.Frag} {mg mb : Str → Option Value} {k : Nat} {fa a : Addr} {fd : FuncData} {x : Str} {fr : Bool} {m : Fm} {s : Shared} {vs : List Value} {ns : List Int} {cs : List (Addr × Addr)} {T : List (Addr × Str)} {scr : Option HO}
    (hscr : ∀ u, scr = some u → ∃ o, u = .frz o (.lst (ns.map V.int)) ∧ K.lookup a = none) (hq : QL K (headH a scr (cs.map (·.2))) (fun _ => False) a (ns.map V.int)) (hok : HOk P w (headH a scr (cs.map (·.2))) s.heap)
    (KX : K.In s.heap) (hns : s.heap.Ns mainGlobals mg) (hb : s.heap.Ns builtinsNs mb) (hbb : ∀ x : Str, x ≠ "__name__" → mb x = bootBuiltins x) (hlim : s.heap.NoLimit) (hdig : s.heap.NoDigits) (hg : s.gens = #[])
    (hbm : ∃ (bm : Addr) (ob : Obj), mg "__builtins__" = some (.ref bm) ∧ bm ≠ builtinsNs ∧ s.heap.get? bm = some ob ∧ ob.cls = .type "module" ∧ ob.dict = some builtinsNs ∧ ob.data = .plain)
    (Tt : TabsAt s.heap K cs) (hT : ∀ p ∈ T, p.1 ∈ cs.map (·.2))
    (ha : s.heap.get? a = some { cls := .type "list", data := .seq vs.toArray }) (hr : Room k callerA)
    (F : ∀ base : Heap, K.In base → base.Ns mainGlobals mg → base.NoDigits → (∀ p ∈ cs, LamX.TabB base mg p.1 p.2) → FnG P w K mg base (L2.CX P w) k fa fd [x] (spOf K mg T fr [false] m)) (hbind : ∀ (s : Shared) (u : Value), BindsTo s fd ⟨[u], []⟩ [(x, u)])
    (hm : ∃ h', m [.list (ns.map PyData.int)] [] = .ok (.bool true) h') :
    codeAny (model P w) callerA (.call (.ref fa) ⟨[.ref a], []⟩) (fun r s' => r = .ok (.ret (.bool true)) ∧ OldK s.heap s'.heap ∧ s'.os = s.os ∧ AllBare s'.gens) s := by
  have tabAt : ∀ b ∈ cs.map (·.2), s.heap.get? b = some { cls := .none, data := .fields #[] } := fun b m => by
    obtain ⟨p, hp, rfl⟩ := List.mem_map.mp m
    exact Tt.at_ p hp
  have na : a ∉ cs.map (·.2) := fun z => by
    have q := tabAt a z
    rw [ha] at q
    cases (show Data.seq vs.toArray _ = Data.fields #[] from congrArg Obj.data (Option.some.inj q))
  generalize eH : headH a scr (cs.map (·.2)) = H at *
  have cases_ : ∀ {b : Addr} {u : HO}, H b = some u → (b = a ∧ scr = some u) ∨ (b ∈ cs.map (·.2) ∧ u = .tbl #[]) := fun {b u} e => by
    rw [← eH] at e
    exact headH_some na e
  have hid : ∀ {b : Addr} {u : Obj}, s.heap.get? b = some u → (∀ vs n, u.data ≠ .seq vs n) → u.data ≠ .fields #[] → H b = none := fun {b u} e h1 h2 => by
    cases q : H b with
    | none => rfl
    | some z =>
      rcases cases_ q with ⟨rfl, _⟩ | ⟨hb, _⟩
      · rw [ha] at e
        cases e
        exact absurd rfl (h1 _ _)
      · rw [tabAt b hb] at e
        cases e
        exact absurd rfl h2
  have plain : ∀ {b : Addr} {u : Obj} {es : Array DictEntry} {ep : Nat}, s.heap.get? b = some u → u.data = .dict es ep → H b = none := fun e d => hid e (fun _ _ z => by rw [d] at z; cases z) fun z => by rw [d] at z; cases z
  have nsK : ∀ {b : Addr} {mm : Str → Option Value}, s.heap.Ns b mm → (hidT s.heap H).Ns b mm := by
    rintro b mm ⟨u, es, ep, e, d, r⟩
    exact ⟨u, es, ep, hidT_get e (plain e d), d, r⟩
  have kb : K.In (hidT s.heap H) := by
    intro b u e
    refine hidT_get (KX b u e) ?_
    cases q : H b with
    | none => rfl
    | some z =>
      rcases cases_ q with ⟨rfl, hz⟩ | ⟨hb, _⟩
      · obtain ⟨_, _, hk⟩ := hscr z hz
        rw [hk] at e
        cases e
      · obtain ⟨p, hp, rfl⟩ := List.mem_map.mp hb
        rw [Tt.noK p hp] at e
        cases e
  obtain ⟨mc, l1, l2⟩ := hlim
  obtain ⟨mc2, l3, l4⟩ := hdig
  have md : Mod K mg (hidT s.heap H) := { kin := kb, glob := nsK hns, blt := ⟨mb, nsK hb, hbb⟩, nolimit := ⟨mc, nsK l1, l2⟩ }
  have TB : ∀ p ∈ cs, LamX.TabB (hidT s.heap H) mg p.1 p.2 := fun p hp => by
    refine { code := ?_, bm := ?_, gP := fun z => ?_ }
    · obtain ⟨o, us, file, tf, flags, tg, inF, text, tt, e1, r1, r2, r3, rest⟩ := Tt.code p hp
      exact ⟨o, us, file, tf, flags, tg, inF, text, tt, hidT_get e1 (hid e1 (fun _ _ z => by rw [r2] at z; cases z) fun z => by
        rw [r2] at z
        cases z
        simp at r3), r1, r2, r3, rest⟩
    · obtain ⟨bm, ob, b1, b2, b3, b4, b5, b6⟩ := hbm
      refine ⟨bm, ob, b1, b2, fun q => ?_, fun q => ?_, hidT_get b3 (hid b3 (fun _ _ z => by rw [b6] at z; cases z) fun z => by rw [b6] at z; cases z), b4, b5, b6⟩
      · obtain ⟨o, es, ep, e, hd, _⟩ := hns
        rw [q, e] at b3
        cases b3
        rw [hd] at b6
        cases b6
      · rw [q, Tt.at_ p hp] at b3
        cases b3
        cases b6
    · obtain ⟨o, es, ep, e, hd, _⟩ := hns
      rw [z, Tt.at_ p hp] at e
      cases e
      cases hd
  have e0 : Env0 P w K mg (hidT s.heap H) callerA [] s H := { frames := rfl, mod := md, bs := fun b u e => of_hidT e, bsz := Nat.le_of_eq (hidT_size _ _), funs := trivial, frf := fun b z => (nomatch z), hok := hok, bare := .of_eq hg }
  obtain ⟨h', em⟩ := hm
  have tabs : LamX.Tabs T H := fun p hp => LamX.TabS.nil (by rw [← eH]; exact headH_tab na (hT p hp))
  have sp : spOf K mg T fr [false] m [.ref a] H (fun v _ => v = .bl true) fun _ _ _ => False := by
    refine ⟨[], fun _ => False, [.list (ns.map PyData.int)], [], tabs, .val (.lst (QL.fewer (fun _ z => ?_) hq) (rp_ints ns)) .nil, by simp, ⟨fun _ z => z.elim, fun _ _ z => z.elim⟩, ?_⟩
    · rcases z with z | z
      · cases z
      · exact z
    rw [em]
    intro v H' _ _ r _
    cases r
    rfl
  refine codeAny_mono ((F _ kb (nsK hns) ⟨mc2, nsK l3, l4⟩ TB).run callerA [] s H ⟨[.ref a], []⟩ [.ref a] [.ref a] _ _ rfl hr e0 (hbind s (.ref a)) (.cons rfl .nil) sp) ?_
  rintro (er | fl) s' hq'
  · obtain ⟨_, _, _, _, _, _, _, _, _, _, _, _, z⟩ := hq'
    exact z.elim
  · cases fl with
    | ret u =>
      obtain ⟨v, H', os, bare, un, hok', r', q⟩ := hq'
      cases (show v = .bl true from q)
      cases (show u = Value.bool true from r')
      have same : ∀ b ob, b ∉ cs.map (·.2) → s.heap.get? b = some ob → s'.heap.get? b = some ob := fun b ob nb e => by
        cases q : H b with
        | none => exact un.keep b ob e q (fun z => nomatch z) (fun z => nomatch z)
        | some z =>
          rcases cases_ q with ⟨rfl, hz⟩ | ⟨hb, _⟩
          · obtain ⟨o, rfl, _⟩ := hscr z hz
            have e1 := (hok b _ q).1
            rw [e] at e1
            cases e1
            exact (hok' b _ (un.frzs b _ _ q)).1
          · exact absurd hb nb
      have more : ∀ p ∈ cs, ∃ mo : Array Value, s'.heap.get? p.2 = some { cls := .none, data := .fields mo } := fun p hp => by
        obtain ⟨mo, z⟩ := un.tbls p.2 #[] (by rw [← eH]; exact headH_tab na (List.mem_map.mpr ⟨p, hp, rfl⟩))
        exact ⟨_, hok' p.2 _ z⟩
      refine ⟨rfl, ⟨fun b ob e => ?_, fun b ob e => ?_⟩, os, bare⟩
      · by_cases hb : b ∈ cs.map (·.2)
        · obtain ⟨p, hp, rfl⟩ := List.mem_map.mp hb
          obtain ⟨mo, hmo⟩ := more p hp
          rw [Tt.at_ p hp] at e
          cases e
          exact .inr (.inl ⟨((Tt.code p hp).tab (Tt.at_ p hp)).isCodeTable, rfl, #[], mo, rfl, by rw [Array.empty_append]; exact hmo⟩)
        · exact .inl (same b ob hb e)
      · by_cases hb : b ∈ cs.map (·.2)
        · obtain ⟨p, hp, rfl⟩ := List.mem_map.mp hb
          obtain ⟨mo, hmo⟩ := more p hp
          exact ⟨_, hmo⟩
        · exact ⟨ob, same b ob hb e⟩
    | _ => exact False.elim hq'
theorem walkG {l : PySem.W.OpenLaw} {n k : Nat} {q : Program} {loose : List Str} {XP : (Str → Option Value) → Heap → Prop} {YP : World → Heap → Prop} {d : DefRec} {K : Params → PySem.W.Frag} {x : Str} {fr : Bool} {m : Fm}
    (hn : l.most = some n) (hn2 : n ≤ sizeLine) (hdf : d.params.defaults = []) (hr : Room k callerA) (hY : ∀ (w : World) (h : Heap), YP w h → (K w.params).In h)
    (F : ∀ (w : World) (mg mb : Str → Option Value) (mean : ExcName → Option Value) (fa : Addr) (h : Heap), YP w h → (K w.params).In h → PyProof.Rows.Top q (PySem.W.looseW q loose) mean mg mb h → mg d.name = some (.ref fa) →
      ∃ (fd : FuncData) (cs : List (Addr × Addr)) (T : List (Addr × Str)), (∀ (s : Shared) (u : Value), BindsTo s fd ⟨[u], []⟩ [(x, u)]) ∧ TabsAt h (K w.params) cs ∧ (∀ p ∈ T, p.1 ∈ cs.map (·.2)) ∧
        ∀ base : Heap, (K w.params).In base → base.Ns mainGlobals mg → base.NoDigits → (∀ p ∈ cs, LamX.TabB base mg p.1 p.2) → FnG l.prog w (K w.params) mg base (L2.CX l.prog w) k fa fd [x] (spOf (K w.params) mg T fr [false] m))
    (hm : ∀ ns : List Int, ns.length ≤ n → ∃ h', m [.list (ns.map PyData.int)] [] = .ok (.bool true) h') : PySem.W.WalkO q loose XP YP l.row.toRowW d [] (fun f vs => PySem.call f vs) := by
  refine Att.attach_call hn hdf ?_
  intro w s0 s mg mb fa o pm cd doc a vs ns G Y ho hd hcd hmg hobj hints hlen hg
  have KX := hY w _ Y
  obtain ⟨fd, cs, T, hb, Tt, hT, hF⟩ := F w mg mb _ fa _ Y KX G.T hmg
  have rv := vals_ints hints
  have lenV := hints.length
  have hl : ns.length ≤ sizeLine := Nat.le_trans hlen hn2
  have tabOk : ∀ b ∈ cs.map (·.2), s.heap.get? b = some { cls := .none, data := .fields #[] } := fun b mm => by
    obtain ⟨p, hp, rfl⟩ := List.mem_map.mp mm
    exact Tt.at_ p hp
  have na : a ∉ cs.map (·.2) := fun z => by
    have q := tabOk a z
    rw [hobj] at q
    cases (show Data.seq vs.toArray _ = Data.fields #[] from congrArg Obj.data (Option.some.inj q))
  cases hk : (K w.params).lookup a with
  | some u =>
    have e := KX a u hk
    rw [hobj] at e
    cases e
    refine lawG_core (scr := none) (ns := ns) (cs := cs) (T := T) (fun u e => by cases e) (.inr ⟨vs.toArray, _, hk, by rw [List.size_toArray, lenV]; exact hl, by simpa using rv⟩) (fun b z e => ?_) KX G.T.g G.T.b G.T.builtins G.T.nolimit G.T.nodigits hg G.T.bmain Tt hT hobj hr hF hb (hm ns hlen)
    rcases headH_some na e with ⟨_, z'⟩ | ⟨hb', rfl⟩
    · cases z'
    · exact tabOk b hb'
  | none =>
    refine lawG_core (scr := some (.frz { cls := .type "list", data := .seq vs.toArray } (.lst (ns.map V.int)))) (ns := ns) (cs := cs) (T := T) (fun u e => by cases e; exact ⟨_, rfl, hk⟩) (.inl ⟨.inr ⟨_, if_pos rfl⟩, fun z => z⟩) (fun b z e => ?_) KX G.T.g G.T.b G.T.builtins G.T.nolimit G.T.nodigits hg G.T.bmain Tt hT hobj hr hF hb (hm ns hlen)
    rcases headH_some na e with ⟨rfl, z'⟩ | ⟨hb', rfl⟩
    · cases z'
      exact ⟨hobj, by rw [List.length_map]; exact hl, vs, _, rv, hobj⟩
    · exact tabOk b hb'
end FL
namespace FL
open PySem PySem.Spec PyProof.Rows L2
def gNeg : Sl → Hs → Option PyData := fun s _ => match s with
  | .val (.int i) => some (.int (-i))
  | _ => none
def gRev : Sl → Hs → Option PyData := fun s h => match s with
  | .val (.tuple ds) => some (.tuple ds.reverse)
  | s => (litems s h).map fun ds => .list ds.reverse
section
variable {X : Cx} {C : Fc} {Wx : WX} {e : Expr} {f : Ev} {k : Nat} {p1 p2 p3 pos : Pos}
theorem u_neg : UnR X (unaryOp .USub) (rd1 X.K C gNeg) := UnR.imp un_neg fun x H Q ⟨ρ, h, s, d, S, r, e, k⟩ => by
  unfold gNeg at e
  split at e
  · rename_i i
    cases (show Rp X.K H (Mo C ρ) x (.int i) from r)
    cases e
    exact ⟨i, rfl, k _ H (Ex.refl _ _ _) S (.int _)⟩
  · cases e
theorem PE.two {t t' u : TE} (h : PE X e t) (h' : PE X e t') (i : ∀ σ H Q, u σ H Q → t σ H Q ∨ t' σ H Q) : PE X e u := ⟨fun pins s σ H Q I q => by
  rcases i σ H Q q with z | z
  · exact h.run pins s σ H Q I z
  · exact h'.run pins s σ H Q I z⟩
end
end FL
namespace FL
open PySem PySem.Spec PyProof.Rows L2
section
variable {env e : En} {h h' : Hs} {f g f1 f2 f3 : Ev} {a : Av} {s t u : Sl} {ss : List Sl} {c d : Tv} {p q : Sv} {x : PyData} {y : Exn}
@[simp] theorem v_bind {α β : Type} {z : α} {k : α → Hs → Rz β} : (Rz.ok z h).bind k = k z h := id rfl
@[simp] theorem v_bindE {α β : Type} {k : α → Hs → Rz β} : (Rz.err y h : Rz α).bind k = .err y h := id rfl
@[simp] theorem v_bindB {α β : Type} {k : α → Hs → Rz β} : (Rz.bad : Rz α).bind k = .bad := id rfl
@[simp] theorem v_fl {α : Type} {z : α} {k : α → Hs → Fl} : (Rz.ok z h).fl env k = k z h := id rfl
@[simp] theorem v_flE {α : Type} {k : α → Hs → Fl} : (Rz.err y h : Rz α).fl env k = .err y env h := id rfl
@[simp] theorem v_flB {α : Type} {k : α → Hs → Fl} : (Rz.bad : Rz α).fl env k = .bad := id rfl
@[simp] theorem v_give : Rz.give (some x) h = .ok (.val x) h := id rfl
@[simp] theorem v_truth {b : Bool} : Rz.truth (.val (.bool b)) h = .ok b h := id rfl
def slot? (o : Option (Option Sl)) (h : Hs) : Rz Sl := match o with
  | some (some s) => .ok s h
  | _ => .bad
@[simp] theorem v_slot : slot? (some (some s)) h = .ok s h := id rfl
@[simp] theorem v_var {i : Nat} : eVar i env h = slot? env[i]? h := id rfl
@[simp] theorem v_k : eK x env h = .ok (.val x) h := id rfl
@[simp] theorem v_bin {g : G2} : cBin g f1 f2 env h = (f1 env h).bind fun s h => (f2 env h).bind fun t h => .give (g s t h) h := id rfl
@[simp] theorem v_un {g : Sl → Hs → Option PyData} : cUn g f env h = (f env h).bind fun s h => .give (g s h) h := id rfl
@[simp] theorem v_cb {g : GL} : cCB g a env h = (a env h).bind fun ss h => .give (g ss h) h := id rfl
@[simp] theorem v_tv : tV f env h = (f env h).bind fun s h => .truth s h := id rfl
@[simp] theorem v_tno : tNo c env h = (c env h).bind fun b h => .ok (!b) h := id rfl
@[simp] theorem v_tan : tAn c d env h = (c env h).bind fun b h => if b = true then d env h else .ok false h := id rfl
@[simp] theorem v_tor : tOr_ c d env h = (c env h).bind fun b h => if b = true then .ok true h else d env h := id rfl
@[simp] theorem v_tt : tTrue env h = .ok true h := id rfl
def and? (s : Sl) (h : Hs) (r : Rz Sl) : Rz Sl := match s with
  | .val (.bool true) => r
  | .val (.bool false) => .ok (.val (.bool false)) h
  | _ => .bad
def or? (s : Sl) (h : Hs) (r : Rz Sl) : Rz Sl := match s with
  | .val (.bool true) => .ok (.val (.bool true)) h
  | .val (.bool false) => r
  | _ => .bad
def not? (s : Sl) (h : Hs) : Rz Sl := match s with
  | .val (.bool b) => .ok (.val (.bool (!b))) h
  | _ => .bad
@[simp] theorem v_andT {r : Rz Sl} : and? (.val (.bool true)) h r = r := id rfl
@[simp] theorem v_andF {r : Rz Sl} : and? (.val (.bool false)) h r = .ok (.val (.bool false)) h := id rfl
@[simp] theorem v_orT {r : Rz Sl} : or? (.val (.bool true)) h r = .ok (.val (.bool true)) h := id rfl
@[simp] theorem v_orF {r : Rz Sl} : or? (.val (.bool false)) h r = r := id rfl
/-- where both sides are reckoned -/
@[simp] theorem v_andO {b c : Bool} : and? (.val (.bool b)) h (.ok (.val (.bool c)) h) = .ok (.val (.bool (b && c))) h := by cases b <;> rfl
@[simp] theorem v_orO {b c : Bool} : or? (.val (.bool b)) h (.ok (.val (.bool c)) h) = .ok (.val (.bool (b || c))) h := by cases b <;> rfl
@[simp] theorem v_notB {b : Bool} : not? (.val (.bool b)) h = .ok (.val (.bool (!b))) h := id rfl
@[simp] theorem v_and : eAnd f g env h = (f env h).bind fun s h => and? s h (g env h) := by
  unfold eAnd and?; rfl
@[simp] theorem v_or : eOr f g env h = (f env h).bind fun s h => or? s h (g env h) := by
  unfold eOr or?; rfl
@[simp] theorem v_not : eNot f env h = (f env h).bind fun s h => not? s h := by
  unfold eNot; congr
@[simp] theorem v_if : eIf c f g env h = (c env h).bind fun b h => if b = true then f env h else g env h := id rfl
def chain? (o : Option PyData) (h : Hs) (r : Rz Sl) : Rz Sl := match o with
  | some (.bool true) => r
  | some (.bool false) => .ok (.val (.bool false)) h
  | _ => .bad
@[simp] theorem v_chainT {r : Rz Sl} : chain? (some (.bool true)) h r = r := id rfl
@[simp] theorem v_chainF {r : Rz Sl} : chain? (some (.bool false)) h r = .ok (.val (.bool false)) h := id rfl
@[simp] theorem v_chainO {b c : Bool} : chain? (some (.bool b)) h (.ok (.val (.bool c)) h) = .ok (.val (.bool (b && c))) h := by cases b <;> rfl
@[simp] theorem v_chain {g1 g2 : G2} : eChain g1 g2 f1 f2 f3 env h = (f1 env h).bind fun s h => (f2 env h).bind fun t h => chain? (g1 s t h) h ((f3 env h).bind fun u h => .give (g2 t u h) h) := by
  unfold eChain chain?; rfl
@[simp] theorem v_anil : aNil env h = .ok [] h := id rfl
@[simp] theorem v_acons : aCons f a env h = (f env h).bind fun s h => (a env h).bind fun ss h => .ok (s :: ss) h := id rfl
@[simp] theorem v_valsN : vals? [] = some [] := id rfl
@[simp] theorem v_valsC : vals? (.val x :: ss) = (vals? ss).map (x :: ·) := id rfl
def line? (n : Nat) (z : PyData) : Option PyData := if lineOk n then some z else none
theorem v_line {n : Nat} {z : PyData} (hn : n ≤ 16777216) : line? n z = some z := by unfold line? lineOk; rw [if_pos (decide_eq_true hn)]
@[simp] theorem v_tup : eTup a env h = (a env h).bind fun ss h => .give ((vals? ss).bind fun ds => line? ds.length (.tuple ds)) h := id rfl
@[simp] theorem v_lst : eLst a env h = (a env h).bind fun ss h => .give ((vals? ss).bind fun ds => line? ds.length (.list ds)) h := id rfl
def new? (o : Option (List PyData)) (h : Hs) : Rz Sl := match o with
  | some ds => if lineOk ds.length then .ok (.loc h.length) (h ++ [.lst ds]) else .bad
  | none => .bad
theorem v_new1 {ds : List PyData} (hn : ds.length ≤ 16777216) : new? (some ds) h = .ok (.loc h.length) (h ++ [.lst ds]) := by unfold new? lineOk; dsimp only; rw [if_pos (decide_eq_true hn)]
@[simp] theorem v_new : eNew a env h = (a env h).bind fun ss h => new? (vals? ss) h := by unfold eNew new?; congr
@[simp] theorem v_gI {k : Int → Int → Option PyData} {i j : Int} : gI k (.val (.int i)) (.val (.int j)) h = k i j := id rfl
@[simp] theorem v_fAdd {i j : Int} : fAdd i j = some (.int (i + j)) := id rfl
@[simp] theorem v_fSub {i j : Int} : fSub i j = some (.int (i - j)) := id rfl
@[simp] theorem v_fLt {i j : Int} : fLt i j = some (.bool (decide (i < j))) := id rfl
@[simp] theorem v_fLe {i j : Int} : fLe i j = some (.bool (decide (i ≤ j))) := id rfl
@[simp] theorem v_fGt {i j : Int} : fGt i j = some (.bool (decide (j < i))) := id rfl
@[simp] theorem v_fGe {i j : Int} : fGe i j = some (.bool (decide (j ≤ i))) := id rfl
theorem v_fMulL {i j : Int} (h1 : -18446744073709551616 < i) (h2 : i < 18446744073709551616) : fMul i j = some (.int (i * j)) := by unfold fMul; rw [if_pos (Or.inl ⟨h1, h2⟩)]
theorem v_fMulR {i j : Int} (h1 : -18446744073709551616 < j) (h2 : j < 18446744073709551616) : fMul i j = some (.int (i * j)) := by unfold fMul; rw [if_pos (Or.inr ⟨h1, h2⟩)]
theorem v_fMod {i j : Int} (h1 : 0 < j) : fMod i j = some (.int (i % j)) := by unfold fMod; rw [if_pos h1]
theorem v_fDivW {i j : Int} (h1 : 0 < j) (h2 : j < 18446744073709551616) : fDiv i j = some (.int (i / j)) := by unfold fDiv; rw [if_pos ⟨h1, h2⟩]
theorem v_fDiv {i j : Int} (h1 : 0 < j) (h2 : j < 1073741824) : fDiv i j = some (.int (i / j)) := v_fDivW h1 (by omega)
@[simp] theorem v_isaI {c : String} {i : Int} : gIsa c (.val (.int i)) h = some (.bool (isaN c "int")) := id rfl
@[simp] theorem v_isaB {c : String} {i : Bool} : gIsa c (.val (.bool i)) h = some (.bool (isaN c "bool")) := id rfl
@[simp] theorem v_isaS {c : String} {i : PySem.Str} : gIsa c (.val (.str i)) h = some (.bool (isaN c "str")) := id rfl
@[simp] theorem v_isaN {c : String} : gIsa c (.val .none) h = some (.bool (isaN c "NoneType")) := id rfl
@[simp] theorem v_isaT {c : String} {ds : List PyData} : gIsa c (.val (.tuple ds)) h = some (.bool (isaN c "tuple")) := id rfl
@[simp] theorem v_isaL {c : String} {ds : List PyData} : gIsa c (.val (.list ds)) h = some (.bool (isaN c "list")) := id rfl
@[simp] theorem v_isa1 : isaN "int" "int" = true := by decide
@[simp] theorem v_isa2 : isaN "bool" "int" = false := by decide
@[simp] theorem v_isa3 : isaN "tuple" "int" = false := by decide
@[simp] theorem v_isa4 : isaN "int" "bool" = true := by decide
@[simp] theorem v_isa5 : isaN "bool" "bool" = true := by decide
@[simp] theorem v_isa6 : isaN "tuple" "tuple" = true := by decide
@[simp] theorem v_isa7 : isaN "tuple" "list" = false := by decide
@[simp] theorem v_isa8 : isaN "tuple" "str" = false := by decide
@[simp] theorem v_isa9 : isaN "tuple" "NoneType" = false := by decide
@[simp] theorem v_isa10 : isaN "tuple" "bool" = false := by decide
@[simp] theorem v_isa11 : isaN "int" "tuple" = false := by decide
@[simp] theorem v_isa12 : isaN "int" "list" = false := by decide
@[simp] theorem v_isa13 : isaN "int" "str" = false := by decide
@[simp] theorem v_isa14 : isaN "int" "NoneType" = false := by decide
@[simp] theorem v_isa15 : isaN "list" "list" = true := by decide
@[simp] theorem v_isa16 : isaN "list" "tuple" = false := by decide
@[simp] theorem v_isa17 : isaN "str" "str" = true := by decide
@[simp] theorem v_itT {ds : List PyData} : items (.val (.tuple ds)) h = some ds := id rfl
@[simp] theorem v_itL {ds : List PyData} : items (.val (.list ds)) h = some ds := id rfl
@[simp] theorem v_liL {ds : List PyData} : litems (.val (.list ds)) h = some ds := id rfl
def obL (o : Option Ob) : Option (List PyData) := match o with
  | some (.lst ds) => some ds
  | _ => none
@[simp] theorem v_obL {ds : List PyData} : obL (some (.lst ds)) = some ds := id rfl
@[simp] theorem v_itO {n : Nat} : items (.loc n) h = obL h[n]? := by unfold items obL; rfl
@[simp] theorem v_liO {n : Nat} : litems (.loc n) h = obL h[n]? := by unfold litems obL; rfl
@[simp] theorem v_datV : dat (.val x) h = some x := id rfl
@[simp] theorem v_datO {n : Nat} : dat (.loc n) h = (obL h[n]?).map PyData.list := by
  show (match h[n]? with | some (.lst ds) => some (PyData.list ds) | _ => none) = _
  cases h[n]? with
  | none => rfl
  | some o => cases o <;> rfl
@[simp] theorem v_eqI {i j : Int} : gEq (.val (.int i)) (.val (.int j)) h = some (.bool (decide (i = j))) := by
  show some (PyData.bool (i == j)) = _
  by_cases q : i = j <;> simp [q]
@[simp] theorem v_neI {i j : Int} : gNe (.val (.int i)) (.val (.int j)) h = some (.bool (!decide (i = j))) := by
  show some (PyData.bool (!(i == j))) = _
  by_cases q : i = j <;> simp [q]
def ix? (o : Option (List PyData)) (t : Sl) : Option PyData := match o, t with
  | some ds, .val (.int i) => atI ds i
  | _, _ => none
@[simp] theorem v_ix : gIx s t h = ix? (items s h) t := by unfold gIx ix?; rfl
@[simp] theorem v_ix1 {ds : List PyData} {i : Int} : ix? (some ds) (.val (.int i)) = atI ds i := id rfl
@[simp] theorem v_lix : lix s t h = ix? (litems s h) t := by unfold lix ix?; rfl
theorem v_atN {ds : List PyData} {n : Nat} {i : Int} (e : i = (n : Int)) : atI ds i = ds[n]? := by
  subst e
  unfold atI ixN
  rw [if_pos (Int.natCast_nonneg n)]
  by_cases q : (n : Int) < ds.length
  · rw [if_pos q]; rfl
  · rw [if_neg q, List.getElem?_eq_none (by omega)]; rfl
@[simp] theorem v_at0 {ds : List PyData} : atI ds 0 = ds[0]? := v_atN rfl
@[simp] theorem v_at1 {ds : List PyData} : atI ds 1 = ds[1]? := v_atN rfl
@[simp] theorem v_at2 {ds : List PyData} : atI ds 2 = ds[2]? := v_atN rfl
@[simp] theorem v_at3 {ds : List PyData} : atI ds 3 = ds[3]? := v_atN rfl
@[simp] theorem v_atC {ds : List PyData} {n : Nat} : atI ds (n : Int) = ds[n]? := v_atN rfl
@[simp] theorem v_len : gLen [s] h = (items s h).map fun ds => .int ds.length := id rfl
@[simp] theorem v_all : gAll [s] h = ((litems s h).bind bools?).map fun bs => .bool (bs.all id) := id rfl
@[simp] theorem v_any : gAny [s] h = ((litems s h).bind bools?).map fun bs => .bool (bs.any id) := id rfl
@[simp] theorem v_sum : gSum [s] h = ((litems s h).bind ints?).map fun bs => .int bs.sum := id rfl
@[simp] theorem v_intI {i : Int} : gInt [.val (.int i)] h = some (.int i) := id rfl
@[simp] theorem v_intB {b : Bool} : gInt [.val (.bool b)] h = some (.int (if b = true then 1 else 0)) := id rfl
@[simp] theorem v_max2 {i j : Int} : gMax2 [.val (.int i), .val (.int j)] h = some (.int (max i j)) := by
  show some (PyData.int (if j > i then j else i)) = _
  congr 2; omega
@[simp] theorem v_min2 {i j : Int} : gMin2 [.val (.int i), .val (.int j)] h = some (.int (min i j)) := by
  show some (PyData.int (if j < i then j else i)) = _
  congr 2; omega
@[simp] theorem v_tuple : gTuple [s] h = (items s h).map fun ds => .tuple ds := id rfl
@[simp] theorem v_list : gList [s] h = (items s h).map fun ds => .list ds := id rfl
@[simp] theorem v_revT {ds : List PyData} : gRev (.val (.tuple ds)) h = some (.tuple ds.reverse) := id rfl
theorem bools_map {α : Type} (f : α → Bool) : ∀ xs : List α, bools? (xs.map fun x => .bool (f x)) = some (xs.map f)
  | [] => rfl
  | x :: xs => by show (bools? (xs.map fun x => .bool (f x))).map (f x :: ·) = _; rw [bools_map f xs]; rfl
theorem ints_map {α : Type} (f : α → Int) : ∀ xs : List α, ints? (xs.map fun x => .int (f x)) = some (xs.map f)
  | [] => rfl
  | x :: xs => by show (ints? (xs.map fun x => .int (f x))).map (f x :: ·) = _; rw [ints_map f xs]; rfl
@[simp] theorem v_onone : oNone env h = .ok none h := id rfl
def osome? (s : Sl) (h : Hs) : Rz (Option Int) := match s with
  | .val (.int i) => .ok (some i) h
  | _ => .bad
@[simp] theorem v_osome1 {i : Int} : osome? (.val (.int i)) h = .ok (some i) h := id rfl
@[simp] theorem v_osome : oSome f env h = (f env h).bind fun s h => osome? s h := by unfold oSome; congr
@[simp] theorem v_sl {lo hi : En → Hs → Rz (Option Int)} : eSl f lo hi env h = (f env h).bind fun s h => (lo env h).bind fun l h => (hi env h).bind fun u h => .give (gCut s l u h) h := id rfl
@[simp] theorem v_cutT {ds : List PyData} {lo hi : Option Int} : gCut (.val (.tuple ds)) lo hi h = some (.tuple (cutD ds lo hi)) := id rfl
@[simp] theorem v_cutL {ds : List PyData} {lo hi : Option Int} : gCut (.val (.list ds)) lo hi h = some (.list (cutD ds lo hi)) := id rfl
def Fl.seq (r : Fl) (q : Sv) : Fl := match r with
  | .next e h => q e h
  | r => r
@[simp] theorem v_seq : sSeq p q env h = (p env h).seq q := by unfold sSeq Fl.seq; cases p env h <;> rfl
@[simp] theorem v_seqN : (Fl.next e h).seq q = q e h := id rfl
@[simp] theorem v_seqR : (Fl.ret s h).seq q = .ret s h := id rfl
@[simp] theorem v_nil : sNil env h = .next env h := id rfl
@[simp] theorem v_exp : sExp f env h = (f env h).fl env fun _ h => .next env h := id rfl
@[simp] theorem v_ret : sRet f env h = (f env h).fl env fun s h => .ret s h := id rfl
@[simp] theorem v_sif : sIf c p q env h = (c env h).fl env fun b h => if b = true then p env h else q env h := id rfl
@[simp] theorem v_set {i : Nat} : sSet i f env h = (f env h).fl env fun s h => .next (env.set i (some s)) h := id rfl
def asg? (tg : Tg) (s : Sl) (env : En) (h : Hs) : Fl := match s with
  | .val d => match tg.put d env with
    | some e => .next e h
    | none => .bad
  | _ => .bad
@[simp] theorem v_asg {tg : Tg} : sAsg f tg env h = (f env h).fl env fun s h => asg? tg s env h := by unfold sAsg; congr
@[simp] theorem v_asg2 {ts : List Tg} {ds : List PyData} : asg? (.tp ts) (.val (.tuple ds)) env h = match Tg.puts ts ds env with
    | some e => .next e h
    | none => .bad := by unfold asg?; simp only [Tg.put]
@[simp] theorem v_putN {i : Nat} : Tg.put (.nm i) x env = some (env.set i (some (.val x))) := by simp only [Tg.put]
@[simp] theorem v_putT {ts : List Tg} {ds : List PyData} : Tg.put (.tp ts) (.tuple ds) env = Tg.puts ts ds env := by simp only [Tg.put]
@[simp] theorem v_putsN : Tg.puts [] [] env = some env := by simp only [Tg.puts]
@[simp] theorem v_putsC {i : Nat} {ts : List Tg} {ds : List PyData} : Tg.puts (.nm i :: ts) (x :: ds) env = Tg.puts ts ds (env.set i (some (.val x))) := by
  rw [Tg.puts]
  simp only [Tg.put]
def par? (i j : Nat) (ss : List Sl) (env : En) (h : Hs) : Fl := match ss with
  | [s, t] => .next ((env.set i (some s)).set j (some t)) h
  | _ => .bad
@[simp] theorem v_par1 {i j : Nat} : par? i j [s, t] env h = .next ((env.set i (some s)).set j (some t)) h := id rfl
@[simp] theorem v_par {i j : Nat} : sPar i j a env h = (a env h).fl env fun ss h => par? i j ss env h := by unfold sPar; congr
def seq? (s : Sl) (h : Hs) : Rz (List PyData) := match s with
  | .val (.list ds) => .ok ds h
  | .val (.tuple ds) => .ok ds h
  | _ => .bad
@[simp] theorem v_seqL {ds : List PyData} : seq? (.val (.list ds)) h = .ok ds h := id rfl
@[simp] theorem v_seqT {ds : List PyData} : seq? (.val (.tuple ds)) h = .ok ds h := id rfl
@[simp] theorem v_src : srcSeq f env h = (f env h).bind fun s h => seq? s h := by unfold srcSeq; congr
def rng? (ss : List Sl) (h : Hs) : Rz (List PyData) := match ss with
  | [.val (.int j)] => if rngOk j then .ok (upTo 0 j.toNat) h else .bad
  | _ => .bad
@[simp] theorem v_rng : srcRng1 a env h = (a env h).bind fun ss h => rng? ss h := by unfold srcRng1; congr
theorem v_rng1 {j : Int} (h1 : -4611686018427387904 ≤ j) (h2 : j < 4611686018427387904) : rng? [.val (.int j)] h = .ok (upTo 0 j.toNat) h := by
  show (if rngOk j then _ else _) = _
  unfold rngOk
  rw [if_pos (decide_eq_true ⟨h1, h2⟩)]
@[simp] theorem v_for {src : En → Hs → Rz (List PyData)} {tg : Tg} : sFor src tg p env h = (src env h).fl env fun ds h => loopF tg p h.length ds env h := id rfl
@[simp] theorem v_comp {src : En → Hs → Rz (List PyData)} {tg : Tg} {vs : List Nat} : eComp src tg vs c f env h = (src env h).bind fun ds h => (compL tg c f (wipeE env vs) ds [] h).bind fun out h => .ok (.val (.list out)) h := id rfl
@[simp] theorem v_compN {src : En → Hs → Rz (List PyData)} {tg : Tg} {vs : List Nat} : eCompN src tg vs c f env h = (src env h).bind fun ds h => (compL tg c f (wipeE env vs) ds [] h).bind fun out h => .ok (.loc h.length) (h ++ [.lst out]) := id rfl
@[simp] theorem v_wipe0 : wipeE env [] = env := id rfl
@[simp] theorem v_wipe {i : Nat} {vs : List Nat} : wipeE env (i :: vs) = (wipeE env vs).set i none := id rfl
/-- a comprehension that takes each thing -/
theorem comp_map {α : Type} {tg : Tg} {E : α → En} {dd : α → PyData} {w : α → PyData} (hp : ∀ z, tg.put (dd z) env = some (E z)) (hc : ∀ z, c (E z) h = .ok true h) :
    ∀ (xs : List α) (acc : List PyData), (∀ z ∈ xs, f (E z) h = .ok (.val (w z)) h) → acc.length + xs.length ≤ 16777216 → compL tg c f env (xs.map dd) acc h = .ok (acc ++ xs.map w) h
  | [], acc, _, _ => by simp [compL]
  | z :: xs, acc, hf, hl => by
    rw [List.map_cons]
    unfold compL
    rw [hp z]
    dsimp only
    rw [hc z]
    dsimp only
    rw [hf z List.mem_cons_self]
    dsimp only
    have hl' : acc.length + xs.length + 1 ≤ 16777216 := hl
    rw [if_pos (by omega), comp_map hp hc xs (acc ++ [w z]) (fun y m => hf y (List.mem_cons_of_mem _ m)) (by rw [List.length_append, List.length_singleton]; omega)]
    simp
@[simp] theorem v_call {m : Fm} {io : List Bool} {fr : Bool} : eCall m io fr a env h = (a env h).bind fun ss h => callF m io fr ss h := id rfl
/-- a call that is handed data alone -/
theorem call_d {m : Fm} {fr : Bool} {io : List Bool} {ss : List Sl} {ds : List PyData} {z : PyData} (hv : vals? ss = some ds) (hi : io = ss.map fun _ => false) (e : m ds [] = .ok z []) : callF m io fr ss h = .ok (.val z) h := by
  have w : ∀ (ss : List Sl) (ds : List PyData), vals? ss = some ds → splitA (ss.map fun _ => false) ss h = some (ds, [], [], []) := by
    intro ss
    induction ss with
    | nil => intro ds q; cases q; rfl
    | cons s r ih =>
      intro ds q
      cases s with
      | loc n => cases q
      | inn n i => cases q
      | exn y => cases q
      | val d =>
        have q' : (vals? r).map (d :: ·) = some ds := q
        cases q2 : vals? r with
        | none => rw [q2] at q'; cases q'
        | some rs =>
          rw [q2] at q'
          cases q'
          simp only [List.map_cons, splitA, ih rs q2, dat0]
  subst hi
  unfold callF
  rw [w ss ds hv]
  dsimp only
  rw [if_pos ⟨rfl, Or.inl rfl⟩, e]
  dsimp only
  rw [if_pos (Or.inl rfl)]
  rfl
@[simp] theorem call1 {m : Fm} {fr : Bool} {x1 : PyData} {z : PyData} (e : m [x1] [] = .ok z []) : callF m [false] fr [.val x1] h = .ok (.val z) h := call_d rfl rfl e
@[simp] theorem call2 {m : Fm} {fr : Bool} {x1 x2 : PyData} {z : PyData} (e : m [x1, x2] [] = .ok z []) : callF m [false, false] fr [.val x1, .val x2] h = .ok (.val z) h := call_d rfl rfl e
@[simp] theorem call3 {m : Fm} {fr : Bool} {x1 x2 x3 : PyData} {z : PyData} (e : m [x1, x2, x3] [] = .ok z []) : callF m [false, false, false] fr [.val x1, .val x2, .val x3] h = .ok (.val z) h := call_d rfl rfl e
@[simp] theorem call4 {m : Fm} {fr : Bool} {x1 x2 x3 x4 : PyData} {z : PyData} (e : m [x1, x2, x3, x4] [] = .ok z []) : callF m [false, false, false, false] fr [.val x1, .val x2, .val x3, .val x4] h = .ok (.val z) h := call_d rfl rfl e
def runD (fr : Bool) (k : Nat) (r : Fl) : Rz PyData := match r with
  | .next _ h => .ok .none (h.take k)
  | .ret s h => outD fr k s h
  | .err x _ h => .err x (h.take k)
  | _ => .bad
@[simp] theorem v_run {fr : Bool} {io : List Bool} {nl : Nat} {ds : List PyData} {os : Hs} : runFn fr io nl p ds os = runD fr os.length (p (mkEnv io ds 0 ++ List.replicate nl none) os) := by
  unfold runFn runD; rfl
@[simp] theorem v_runN {fr : Bool} {k : Nat} : runD fr k (.next e h) = .ok .none (h.take k) := id rfl
@[simp] theorem v_runR {fr : Bool} {k : Nat} : runD fr k (.ret s h) = outD fr k s h := id rfl
@[simp] theorem v_outV {k : Nat} : outD false k (.val x) h = .ok x (h.take k) := by unfold outD; simp
@[simp] theorem v_mkN {ds : List PyData} {k : Nat} : mkEnv [] ds k = [] := id rfl
@[simp] theorem v_mkF {io : List Bool} {ds : List PyData} {k : Nat} : mkEnv (false :: io) (x :: ds) k = some (.val x) :: mkEnv io ds k := id rfl
@[simp] theorem v_mkT {io : List Bool} {ds : List PyData} {k : Nat} : mkEnv (true :: io) ds k = some (.loc k) :: mkEnv io ds (k + 1) := by cases ds <;> rfl
theorem callF_eq {m : Fm} {io : List Bool} {fr : Bool} {ss : List Sl} {ds : List PyData} {ns : List Nat} {os os' : Hs} {vw : List Nat} {z : PyData} (e : splitA io ss h = some (ds, ns, os, vw)) (ha : apartN ns vw = true) (hv : vw = [] ∨ fr = true)
    (em : m ds os = .ok z os') (ho : vw = [] ∨ os'.all obNoL = true) : callF m io fr ss h = .ok (.val z) (putObs ns os' h) := by
  unfold callF
  rw [e]
  dsimp only
  rw [if_pos ⟨ha, hv⟩, em]
  dsimp only
  rw [if_pos ho]
theorem callN_eq {m : Fm} {io : List Bool} {ss : List Sl} {ds ls : List PyData} {ns : List Nat} {os os' : Hs} {vw : List Nat} (e : splitA io ss h = some (ds, ns, os, vw)) (ha : apartN ns vw = true)
    (em : m ds os = .ok (.list ls) os') (ho : os'.all obNoL = true) : callN m io ss h = .ok (.loc h.length) (putObs ns os' h ++ [.lst ls]) := by
  unfold callN
  rw [e]
  dsimp only
  rw [if_pos ha, em]
  dsimp only
  rw [if_pos ho]
@[simp] theorem v_callN {m : Fm} {io : List Bool} : eCallN m io a env h = (a env h).bind fun ss h => callN m io ss h := id rfl
@[simp] theorem v_cutN {n : Nat} : cutE n [] = [] := id rfl
@[simp] theorem v_cut0 {n : Nat} {r : En} : cutE n (none :: r) = none :: cutE n r := id rfl
@[simp] theorem v_cutV {n : Nat} {r : En} : cutE n (some (.val x) :: r) = some (.val x) :: cutE n r := id rfl
@[simp] theorem v_cutI {n k i : Nat} {r : En} : cutE n (some (.inn k i) :: r) = (if k < n then some (.inn k i) else none) :: cutE n r := id rfl
@[simp] theorem v_cutO {n k : Nat} {r : En} : cutE n (some (.loc k) :: r) = (if k < n then some (.loc k) else none) :: cutE n r := id rfl
end
end FL
namespace FL
open PySem PySem.Spec PyProof.Rows L2
def sRaise (x : Str) : Sv := fun env h => .err ⟨x, []⟩ env h
/-- what is asked of a class of refusals -/
structure ExCls (K : PySem.W.Frag) (mg : Str → Option Value) (x : Str) (C : Addr) : Prop where
  g : mg x = some (.ref C)
  q : PySem.W.excIn K C [.type "ValueError", .type "Exception", .type "BaseException", .type "object"] "ValueError.__new__" = true
  kp : PySem.W.keepIn K (.ref C) = true
  sub : PySem.W.subIn K (.ref C) (.type "BaseException") = some true
  ty : PySem.W.typeIn K (.ref C) = some (.type "type")
section
variable {X : Cx} {C : Fc} {Wx : WX}
theorem fs_raise {x m : Str} {c : Addr} {j : Nat} {p p2 pos pos2 : Pos} (hc : X.calm = true) (tk : Takes X Wx) (e : ExCls X.K X.mg x c) (hg : Gl X x) (hdb : (x == ("__debug__" : Str)) = false := by decide) :
    FS X C Wx (.Raise (some (.Call (.Name x p) [.Constant (.str m) j p2] [] pos2)) none pos) (sRaise x) :=
  PS.imp (ps_raise hc tk (pmk_own PySem.F.excBase_ValueError e.q e.g e.kp (raises_own e.sub e.ty) hg hdb)) fun D σ H ⟨ρ, env, h, S, E, P⟩ =>
    P ρ σ H (.ref c) none (Stp.refl _ _) S E ⟨e.g, .inl ⟨rfl, rfl⟩⟩
end
@[simp] theorem v_raise {x : Str} {env : En} {h : Hs} : sRaise x env h = .err ⟨x, []⟩ env h := id rfl
@[simp] theorem v_seqE {x : Exn} {e : En} {h : Hs} {q : Sv} : (Fl.err x e h).seq q = .err x e h := id rfl
@[simp] theorem v_runE {fr : Bool} {k : Nat} {x : Exn} {e : En} {h : Hs} : runD fr k (.err x e h) = .err x (h.take k) := id rfl
end FL
namespace FL
open PySem PySem.Spec PyProof.Rows L2
set_option maxHeartbeats 1000000 in
theorem new_enum {v : Value} {o : Obj} {G : Heap → Prop} (B : Begins v o G) : Meets (Builtin.«enumerate.__new__» ⟨[.type "enumerate", v], []⟩) fun _ R s =>
    G s.heap ∧ R (.ok (.ret (.ref (s.heap.push o).objs.size))) { s with heap := (s.heap.push o).push { cls := .type "enumerate", data := .fields #[.none, .bool false, .ref s.heap.objs.size, rawInt 0, .none, .none] } } :=
  .of_wp fun prog w A R s h => by
    obtain ⟨hp, g, d, tk, os⟩ := s
    obtain ⟨h1, h⟩ := h
    have su := sub_enumerate
    have it : ∀ {A' : Around} {E : Value → Shared → Prop} {Q : Value → Shared → Prop}, Q (.ref hp.objs.size) ⟨hp.push o, g, d, tk, os⟩ → wpAny (model prog w) A' (pyIter v) Q E ⟨hp, g, d, tk, os⟩ :=
      fun q => B.iter _ _ _ _ _ _ h1 q
    wp_walk using it
    refine wpAny_stack_any fun st => wpAny_pure ?_
    split
    · rename_i c _ _ _ _ _
      cases (c == Value.type "enumerate") <;> (wp_walk using it; exact ⟨_, rfl, h⟩)
    · wp_walk using it
      exact ⟨_, rfl, h⟩
theorem call_enum {prog : Program} {w : World} {A : Around} {E : Value → Shared → Prop} {s : Shared} {v : Value} {o : Obj} {G : Heap → Prop} {Q : Value → Shared → Prop} (B : Begins v o G) (h1 : G s.heap)
    (h : ∀ h', IsEnum h' (s.heap.objs.size + 1) s.heap.objs.size 0 .none → h'.get? s.heap.objs.size = some o → (∀ b o, s.heap.get? b = some o → h'.get? b = some o) → Q (.ref (s.heap.objs.size + 1)) { s with heap := h' }) :
    wpAny (model prog w) A (call (.type "enumerate") [v]) Q E s := by
  have z : (s.heap.push o).objs.size = s.heap.objs.size + 1 := Heap.size_push ..
  refine callType_new F.called_enumerate (by decide) (F.typeCall_enumerate_1 _) (F.newCall_enumerate_1 _) (fun obj => F.args_object_init_2 obj _) F.entry_enumerate_new (new_enum B) ⟨h1, ?_⟩
  show _ ∧ _
  rw [z]
  have he := Heap.get?_push_size (s.heap.push o) (o := { cls := .type "enumerate", data := .fields #[.none, .bool false, .ref s.heap.objs.size, rawInt 0, .none, .none] }) rfl
  rw [z] at he
  exact ⟨⟨_, he, rfl⟩, h _ he (Heap.get?_push_of_some _ (Heap.get?_push_size _ B.free)) fun b o x => Heap.get?_push_of_some _ (Heap.get?_push_of_some _ x)⟩
/-- the tuple at a, each item in a new pair -/
def ItE (K : PySem.W.Frag) (a : Addr) : It :=
  ⟨fun i H => ∃ (xs : List V) (x : V), SqT K H a xs ∧ xs[i]? = some x, fun i H v H' => ∃ T x, v = .ref T ∧ H T = none ∧ H' = upd H T (.tup [.int (i : Nat), x]) ∧ ∀ xs, SqT K H a xs → xs[i]? = some x, fun i H => ∃ xs : List V, SqT K H a xs ∧ xs.length ≤ i⟩
theorem turn_enT {P : Program} {w : World} {K : PySem.W.Frag} {elts : List Expr} {kk : Nat} {tpos : Pos} (a e it : Addr) :
    Turn P w K (.Tuple elts kk tpos) (ItE K a) [e, it] e fun i h => (∃ old, IsEnum h e it ((i : Nat) : Int) old) ∧ h.IsTupleIter it a i ∧ e ≠ it ∧ e ≠ a ∧ a ≠ it where
  mem := by simp
  obj := by
    rintro i h ⟨⟨old, he⟩, ⟨o, ho, hc, hd⟩, _⟩ b hb
    rcases (by simpa using hb : b = e ∨ b = it) with rfl | rfl
    · exact ⟨_, he, fun v q => nomatch q⟩
    · exact ⟨o, ho, fun v q => by rw [hd] at q; cases q⟩
  keep := by
    rintro i h h' ⟨⟨old, he⟩, hi, r⟩ k
    exact ⟨⟨old, k e (by simp) _ he⟩, hi.at fun o q => k it (by simp) o q, r⟩
  item := by
    rintro X rfl rfl rfl hc i pins s σ H E I hf ⟨⟨old, he⟩, hit, n1, n2, n3⟩ ⟨xs, x, hq, hx⟩
    obtain ⟨its, rv, p, hz⟩ := I.tuple hq
    obtain ⟨u, hu, ru⟩ := rv.get hx
    have el : e < s.heap.objs.size := Heap.lt_size he
    have il : it < s.heap.objs.size := by obtain ⟨_, q, _⟩ := hit; exact Heap.lt_size q
    have lt : i < its.toArray.size := by
      rw [List.size_toArray]
      exact (List.getElem?_eq_some_iff.mp hu).1
    refine wpAny_pyNext_enum_itemC (Draws.tuple (A := X.A.in1) (I.ok.hd hc) it a n3 its.toArray) he ⟨hit, p⟩ lt n1 (by simp [n1, n2]) ?_
    intro y h' tk hy ho hst hT hsz hk
    have ey : y = u := by
      have : its[i]? = some y := by simpa using hy
      rw [hu] at this
      exact (Option.some.inj this).symm
    subst ey
    refine ⟨_, rfl, wpAny_letOwnedTupleGo_enum (s := { s with heap := h', toks := tk + 1 }) ho fun h2 he2 sb => ?_⟩
    have at2 : h2.get? s.heap.objs.size = some { cls := .type "tuple", data := .seq #[.int i tk, y] } := (sb.2 _ (Nat.ne_of_gt el)).trans hT
    have ok2 : ObjOk X.prog X.w (upd H s.heap.objs.size (.tup [.int (i : Nat), x])) h2 s.heap.objs.size (.tup [.int (i : Nat), x]) :=
      ⟨by show 2 ≤ sizeLine; decide, [.int i tk, y], .cons ⟨_, rfl⟩ (.cons ru .nil), ⟨_, at2, rfl, _, rfl⟩⟩
    have I2 : Inv X pins σ (upd H s.heap.objs.size (.tup [.int (i : Nat), x])) { s with heap := h2, toks := tk + 1 } := I.turnedNew (ch := [e, it]) (fun b ob hb q => by
      have b1 : b ≠ e := fun z => hb (by simp [z])
      have b2 : b ≠ it := fun z => hb (by simp [z])
      exact (sb.2 b b1).trans (hk b ob b1 b2 q)) hf (Nat.le_refl _) ok2
    refine ⟨.ref s.heap.objs.size, _, I2, rfl, ⟨_, x, rfl, I.fresh, rfl, fun ys hys => ?_⟩, ⟨⟨y, ?_⟩, hst.1.at fun o q => (sb.2 it (Ne.symm n1)).trans q, n1, n2, n3⟩, fun b hb => ?_⟩
    · rw [I.tuple_inj hys hq]; exact hx
    · have e1 : ((i + 1 : Nat) : Int) = (i : Int) + 1 := by omega
      rw [e1]; exact he2
    · have lt2 : b < s.heap.objs.size := by
        rcases (by simpa using hb : b = e ∨ b = it) with rfl | rfl
        · exact el
        · exact il
      rw [upd_ne (Nat.ne_of_lt lt2)]
      exact (hf b hb).1
  done := by
    rintro X rfl rfl rfl hc i pins s σ H E I hf ⟨⟨old, he⟩, hit, n1, n2, n3⟩ ⟨xs, hq, hx⟩
    obtain ⟨its, rv, p, hz⟩ := I.tuple hq
    have no : its.toArray[i]? = none := by
      have := rv.length
      simp
      omega
    have D : Draws X.prog X.w X.A.in1 it [it, a] i (fun _ _ => True) (fun j h => j = i ∧ h.IsTupleIter it a i ∧ h.IsTuple a its.toArray) := {
      live := fun _ _ st => let ⟨o, ho, _⟩ := st.2.1; ⟨o, ho⟩
      frame := fun _ _ _ st hk => ⟨st.1, st.2.1.at fun o e => hk it (by simp) o e, st.2.2.at fun o e => hk a (by simp) o e⟩
      item := fun j s Q E hj st _ => absurd st.1 (Nat.ne_of_lt hj)
      done := fun s Q E st hE => wpAny_nextOf_tuple_end (I.ok.hd hc) st.2.1 st.2.2 no hE }
    obtain ⟨f0, f1, f2, f3, f4, f5⟩ := hf it (by simp)
    exact wpAny_pyNext_enum_endD D he ⟨rfl, hit, p⟩ fun h' eb => ⟨rfl, I.turned (t' := s.toks) (fun b o hb q => eb b o hb q) f0 f1 f3 f4 f5⟩
  self := by
    rintro A i s Q E ⟨⟨_, he⟩, _⟩ h
    exact wpAny_pyIter_enum he h
theorem boot_enum : bootBuiltins "enumerate" = some (.type "enumerate") := by decide +kernel
def iEnT (K : PySem.W.Frag) (ta : TA) : TI := fun σ H R => ta σ H fun vs H1 => ∃ a xs, vs = [.ref a] ∧ SqT K H1 a xs ∧ R (ItE K a) H1
theorem pi_enT {X : Cx} {e : Expr} {ta : TA} {p pos tpos : Pos} {elts : List Expr} {kk : Nat} (hg : Gl X "enumerate") (hm : X.mg "enumerate" = none) (ha : PA X [e] ta) (hs : starEach [e] X.env = [(false, eval e X.env)] := by rfl) :
    PI X (.Tuple elts kk tpos) (.Call (.Name "enumerate" p) [e] [] pos) (iEnT X.K ta) := by
  constructor
  intro pins s σ H R I h
  refine Call_ (ld_blt I hg hm boot_enum (PyProof.Rows.callWith_type1 (thn (ha.run pos pins s σ H _ I h) ?_) hs rfl))
  rintro us s1 ⟨vs, H1, I1, r1, a, xs, rfl, hq, q⟩
  cases r1 with
  | cons r rr =>
    cases rr
    cases r
    obtain ⟨its, rv, pt, hz⟩ := I1.tuple hq
    refine call_enum (begins_tuple a its.toArray) pt fun h' he ho hk => wpAny_pyIter_enum he ?_
    have I2 : Inv X pins σ H1 { s1 with heap := h' } := I1.kept (t' := s1.toks) hk
    have al : a < s1.heap.objs.size := by obtain ⟨_, z, _⟩ := pt; exact Heap.lt_size z
    refine ⟨s1.heap.objs.size + 1, [s1.heap.objs.size + 1, s1.heap.objs.size], _, _, H1, rfl, I2, turn_enT a (s1.heap.objs.size + 1) s1.heap.objs.size, ⟨⟨.none, he⟩, ⟨_, ho, rfl, rfl⟩, Nat.succ_ne_self _, fun z : s1.heap.objs.size + 1 = a => absurd al (by rw [← z]; exact Nat.not_lt.mpr (Nat.le_succ _)), fun z : a = s1.heap.objs.size => absurd al (by rw [z]; exact Nat.lt_irrefl _)⟩, fun b hb => ?_, q⟩
    have hle : s1.heap.objs.size ≤ b := by
      rcases (by simpa using hb : b = s1.heap.objs.size + 1 ∨ b = s1.heap.objs.size) with rfl | rfl <;> omega
    exact I1.fpOk hle (I1.hok.fresh hle)
def enumD (k : Nat) : List PyData → List PyData
  | [] => []
  | d :: ds => .tuple [.int k, d] :: enumD (k + 1) ds
theorem enumD_get : ∀ (ds : List PyData) (k i : Nat), (enumD k ds)[i]? = (ds[i]?).map fun d => .tuple [.int ((k + i : Nat) : Int), d]
  | [], k, i => by simp [enumD]
  | d :: ds, k, 0 => by simp [enumD]
  | d :: ds, k, i + 1 => by
    show (enumD (k + 1) ds)[i]? = _
    rw [enumD_get ds (k + 1) i, show k + 1 + i = k + (i + 1) by omega]
    simp
theorem enumD_len : ∀ (ds : List PyData) (k : Nat), (enumD k ds).length = ds.length
  | [], _ => rfl
  | d :: ds, k => congrArg (· + 1) (enumD_len ds (k + 1))
def srcEnum (f : Av) : En → Hs → Rz (List PyData) := fun env h => (f env h).bind fun ss h => match ss with
  | [.val (.tuple ds)] => .ok (enumD 0 ds) h
  | [.val (.list ds)] => .ok (enumD 0 ds) h
  | _ => .bad
theorem gvs_enT {K : PySem.W.Frag} {H : Hp} {M : Ms} {a : Addr} {xs : List V} {ds : List PyData} (q : QT K H M a xs) (r : RpAll K H M xs ds) : Gvs K (ItE K a) (enumD 0 ds) M H where
  go := fun M' H' i d s e => by
    rw [enumD_get] at e
    cases z : ds[i]? with
    | none => rw [z] at e; cases e
    | some d0 =>
      obtain ⟨v, ev, _⟩ := r.get z
      exact ⟨xs, v, (q.stp s).sq, ev⟩
  yld := fun M' H' i d x H'' s e y => by
    obtain ⟨T, v, rfl, hT, rfl, hv⟩ := y
    rw [enumD_get] at e
    cases z : ds[i]? with
    | none => rw [z] at e; cases e
    | some d0 =>
      rw [z] at e
      cases e
      obtain ⟨w, ew, rw_⟩ := r.get z
      have := hv xs (q.stp s).sq
      rw [ew] at this
      cases this
      refine .inr (.inl ⟨T, _, _, hT, rfl, rfl, rfl, .cons ?_ (.cons (rw_.stp s) .nil)⟩)
      rw [Nat.zero_add]
      exact .int _
  stop := fun M' H' i s hl => ⟨xs, (q.stp s).sq, by rw [r.length, ← enumD_len ds 0]; exact hl⟩
theorem gvs_enL {K : PySem.W.Frag} {H : Hp} {M : Ms} {a : Addr} {xs : List V} {ds : List PyData} (q : QL K H M a xs) (r : RpAll K H M xs ds) : Gvs K (Ite K a) (enumD 0 ds) M H where
  go := fun M' H' i d s e => by
    rw [enumD_get] at e
    cases z : ds[i]? with
    | none => rw [z] at e; cases e
    | some d0 =>
      obtain ⟨v, ev, _⟩ := r.get z
      exact ⟨xs, v, (q.stp s).sq, ev⟩
  yld := fun M' H' i d x H'' s e y => by
    obtain ⟨T, v, rfl, hT, rfl, hv⟩ := y
    rw [enumD_get] at e
    cases z : ds[i]? with
    | none => rw [z] at e; cases e
    | some d0 =>
      rw [z] at e
      cases e
      obtain ⟨w, ew, rw_⟩ := r.get z
      have := hv xs (q.stp s).sq
      rw [ew] at this
      cases this
      refine .inr (.inl ⟨T, _, _, hT, rfl, rfl, rfl, .cons ?_ (.cons (rw_.stp s) .nil)⟩)
      rw [Nat.zero_add]
      exact .int _
  stop := fun M' H' i s hl => ⟨xs, (q.stp s).sq, by rw [r.length, ← enumD_len ds 0]; exact hl⟩
section
variable {X : Cx} {C : Fc} {Wx : WX} {e : Expr} {f : Av} {p pos tpos : Pos} {elts : List Expr} {kk : Nat}
theorem fi_enum (hg : Gl X "enumerate") (hm : X.mg "enumerate" = none) (ha : FA X C Wx [e] f) (hs : starEach [e] X.env = [(false, eval e X.env)] := by rfl) :
    FI X C Wx (.Tuple elts kk tpos) (.Call (.Name "enumerate" p) [e] [] pos) (srcEnum f) := by
  refine PI.two (pi_enT hg hm ha hs) (pi_enum hg hm ha hs) fun σ H R ⟨ρ, env, h, S, E, P⟩ => ?_
  have P' : Po X.K X.mg C Wx σ ρ H (relI X.K C) ((f env h).bind fun ss h => match ss with
    | [.val (.tuple ds)] => (.ok (enumD 0 ds) h : Rz (List PyData))
    | [.val (.list ds)] => .ok (enumD 0 ds) h
    | _ => .bad) R := P
  cases q : f env h with
  | bad => rw [q] at P'; exact P'.elim
  | err y h1 => rw [q] at P'; exact .inl ⟨ρ, env, h, S, E, by rw [q]; exact P'⟩
  | ok ss h1 =>
    rw [q, v_bind] at P'
    split at P'
    · rename_i ds
      refine .inl ⟨ρ, env, h, S, E, ?_⟩
      rw [q]
      intro ρ1 vs H1 x1 S1 r1
      obtain ⟨v, rfl, rv⟩ := SlVs.one r1
      cases (show Rp X.K H1 (Mo C ρ1) v (.tuple ds) from rv) with
      | tup qq ra => exact ⟨_, _, rfl, qq.sq, P' ρ1 _ H1 x1 S1 (gvs_enT qq ra)⟩
    · rename_i ds
      refine .inr ⟨ρ, env, h, S, E, ?_⟩
      rw [q]
      intro ρ1 vs H1 x1 S1 r1
      obtain ⟨v, rfl, rv⟩ := SlVs.one r1
      cases (show Rp X.K H1 (Mo C ρ1) v (.list ds) from rv) with
      | lst qq ra => exact ⟨_, _, rfl, qq.sq, P' ρ1 _ H1 x1 S1 (gvs_enL qq ra)⟩
    · exact P'.elim
end
end FL
namespace FL
open PySem PySem.Spec PyProof.Rows L2
section
variable {X : Cx} {C : Fc}
def gIn : G2 := fun s t h => match dat s h, items t h with
  | some d, some ds => if shp d && shp (.list ds) then some (.bool (ds.any fun z => PyData.eqv z d)) else none
  | _, _ => none
def gNotIn : G2 := fun s t h => match dat s h, items t h with
  | some d, some ds => if shp d && shp (.list ds) then some (.bool (!ds.any fun z => PyData.eqv z d)) else none
  | _, _ => none
/-- a list or a tuple, its items data -/
theorem items_dp {ρ : Fps} {H : Hp} {h : Hs} {v : V} {s : Sl} {ds : List PyData} (S : SimH X.K C ρ h H) (r : SlV X.K C ρ H v s) (e : items s h = some ds) (hs : shp (.list ds) = true) : Dp X.K H v (.list ds) ∨ Dp X.K H v (.tuple ds) := by
  have nd : PyData.hasDictAll ds = false := by simpa only [PyData.hasDict] using shp_nd hs
  obtain ⟨a, vs, rfl, sq | sq, ra⟩ := items_rel S r e
  · exact .inl (.lst sq (RpAll.dp _ _ nd ra))
  · exact .inr (.tup sq (RpAll.dp _ _ nd ra))
def rInB (K : PySem.W.Frag) (neg : Bool) : R2 := fun x y H Q => ∃ d ds, Dp K H x d ∧ (Dp K H y (.list ds) ∨ Dp K H y (.tuple ds)) ∧ shp d = true ∧ shp (.list ds) = true ∧ Q (.bl (if neg then !ds.any fun z => PyData.eqv z d else ds.any fun z => PyData.eqv z d)) H
theorem op_inB (hu : X.A.units + 65 < cLine) : OpR X (compareOp .In) (rInB X.K false) := by
  rintro pins s σ H x y v u Q I rx ry ⟨d, ds, hd, he, sd, se, q⟩
  obtain ⟨as, r1⟩ := Dp.reads I d x v hd rx
  rcases he with he | he
  · exact op_inD hu pins s σ H x y v u Q I rx ry ⟨d, ds, hd, he, sd, se, q⟩
  · obtain ⟨bs, r2⟩ := Dp.reads I (.tuple ds) y u he ry
    exact SeqAt.in_tuple_reads r2 r1 (SeqAt.canLay_of_shaped se) (SeqAt.canLay_of_shaped sd) (room_in_shaped sd hu) ⟨.bl _, H, I, rfl, q⟩
theorem op_notInB (hu : X.A.units + 65 < cLine) : OpR X (compareOp .NotIn) (rInB X.K true) := by
  rintro pins s σ H x y v u Q I rx ry ⟨d, ds, hd, he, sd, se, q⟩
  obtain ⟨as, r1⟩ := Dp.reads I d x v hd rx
  rcases he with he | he
  · exact op_notInD hu pins s σ H x y v u Q I rx ry ⟨d, ds, hd, he, sd, se, q⟩
  · obtain ⟨bs, r2⟩ := Dp.reads I (.tuple ds) y u he ry
    exact SeqAt.notIn_tuple_reads r2 r1 (SeqAt.canLay_of_shaped se) (SeqAt.canLay_of_shaped sd) (room_in_shaped sd hu) ⟨.bl _, H, I, rfl, q⟩
theorem o_in (hu : X.A.units + 65 < cLine) : OpR X (compareOp .In) (rd2 X.K C gIn) := OpR.imp (op_inB hu) fun x y H Q ⟨ρ, h, s, t, d, S, r1, r2, e, k⟩ => by
  unfold gIn at e
  split at e
  · rename_i a ds e1 e2
    split at e
    · rename_i c
      obtain ⟨c1, c2⟩ := Bool.and_eq_true_iff.mp c
      cases e
      exact ⟨a, ds, dat_rel S r1 e1 (shp_nd c1), items_dp S r2 e2 c2, c1, c2, k _ H (Ex.refl _ _ _) S (.bl _)⟩
    · cases e
  · cases e
theorem o_notin (hu : X.A.units + 65 < cLine) : OpR X (compareOp .NotIn) (rd2 X.K C gNotIn) := OpR.imp (op_notInB hu) fun x y H Q ⟨ρ, h, s, t, d, S, r1, r2, e, k⟩ => by
  unfold gNotIn at e
  split at e
  · rename_i a ds e1 e2
    split at e
    · rename_i c
      obtain ⟨c1, c2⟩ := Bool.and_eq_true_iff.mp c
      cases e
      exact ⟨a, ds, dat_rel S r1 e1 (shp_nd c1), items_dp S r2 e2 c2, c1, c2, k _ H (Ex.refl _ _ _) S (.bl _)⟩
    · cases e
  · cases e
end
def gAdd : G2 := fun s t h => match s, t with
  | .val (.int i), .val (.int j) => some (.int (i + j))
  | .val (.str a), .val (.str b) => if a.length + b.length ≤ 16777216 then some (.str (a ++ b)) else none
  | .val (.tuple a), .val (.tuple b) => if lineOk (a.length + b.length) then some (.tuple (a ++ b)) else none
  | s, t => match litems s h, litems t h with
    | some a, some b => if lineOk (a.length + b.length) then some (.list (a ++ b)) else none
    | _, _ => none
section
variable {X : Cx} {C : Fc}
/-- a list whose object is plain -/
def PlL (K : PySem.W.Frag) (H : Hp) (a : Addr) (xs : List V) : Prop := Rd H a (.lst xs) ∨ ∃ (its : Array Value) (n : Nat), K.lookup a = some { cls := .type "list", data := .seq its n } ∧ its.size ≤ sizeLine ∧ Vals xs its.toList
theorem PlL.get {pins : List (Addr × Obj)} {s : Shared} {σ : St} {H : Hp} {a : Addr} {xs : List V} (I : Inv X pins σ H s) (h : PlL X.K H a xs) : ∃ (its : List Value) (n : Nat), Vals xs its ∧ s.heap.get? a = some { cls := .type "list", data := .seq its.toArray n } := by
  rcases h with h | ⟨its, n, hk, hz, r⟩
  · obtain ⟨z, its, n, r, e⟩ := h.ok I.hok
    exact ⟨its, n, r, e⟩
  · exact ⟨its.toList, n, r, by simpa using I.kIn _ _ hk⟩
theorem litems_pl {ρ : Fps} {H : Hp} {h : Hs} {v : V} {s : Sl} {ds : List PyData} (S : SimH X.K C ρ h H) (r : SlV X.K C ρ H v s) (e : litems s h = some ds) : ∃ a vs, v = .ref a ∧ PlL X.K H a vs ∧ RpAll X.K H (Mo C ρ) vs ds := by
  unfold litems at e
  split at e
  · cases e
    cases (show Rp X.K H (Mo C ρ) v (.list ds) from r) with
    | lst q a => exact ⟨_, _, rfl, q.imp And.left id, a⟩
  · rename_i n
    obtain ⟨fp, a, e1, e2, rfl⟩ := r
    split at e
    · rename_i ds' e3
      cases e
      obtain ⟨_, vs, q, ra⟩ := S.lst e1 e2 e3
      exact ⟨_, vs, rfl, .inl (.inl q), ra⟩
    · cases e
  · rename_i n i
    obtain ⟨fp, a, e1, e2, rfl⟩ := r
    obtain ⟨vs, q, ra⟩ := S.inn e1 e2 e
    exact ⟨_, vs, rfl, .inl (.inl q), ra⟩
  · cases e
def rCatP (K : PySem.W.Frag) : R2 := fun x y H Q => ∃ a b xs ys, x = .ref a ∧ y = .ref b ∧ PlL K H a xs ∧ PlL K H b ys ∧ xs.length + ys.length ≤ sizeLine ∧ ∀ p, H p = none → Q (.ref p) (upd H p (.lst (xs ++ ys)))
theorem op_catP : OpR X (binaryOp .Add) (rCatP X.K) := by
  rintro pins s σ H x y v u Q I rx ry ⟨a, b, xs, ys, rfl, rfl, ha, hb, hz, q⟩
  cases rx
  cases ry
  obtain ⟨i1, n1, r1, e1⟩ := ha.get I
  obtain ⟨i2, n2, r2, e2⟩ := hb.get I
  have l1 := r1.length
  have l2 := r2.length
  refine PySem.P.add_list e1 e2 ?_ (by rw [List.size_toArray, List.size_toArray]; omega)
  rw [show i1.toArray ++ i2.toArray = (i1 ++ i2).toArray by simp]
  exact ⟨.ref _, _, I.lnew (t' := s.toks) (r1.append r2) (by rw [List.length_append]; omega), rfl, q _ I.fresh⟩
theorem o_add : OpR X (binaryOp .Add) (rd2 X.K C gAdd) := OpR.imp (((op_add.or op_add_str).or op_catA).or op_catP) fun x y H Q ⟨ρ, h, s, t, d, S, r1, r2, e, k⟩ => by
  unfold gAdd at e
  split at e
  · rename_i i j
    cases e
    cases (show Rp X.K H (Mo C ρ) x (.int i) from r1)
    cases (show Rp X.K H (Mo C ρ) y (.int j) from r2)
    exact .inl (.inl (.inl ⟨i, j, rfl, rfl, k _ H (Ex.refl _ _ _) S (.int _)⟩))
  · rename_i a b
    split at e
    · rename_i hl
      cases e
      cases (show Rp X.K H (Mo C ρ) x (.str a) from r1)
      cases (show Rp X.K H (Mo C ρ) y (.str b) from r2)
      exact .inl (.inl (.inr ⟨a, b, rfl, rfl, by rw [sizeLine_eq]; exact hl, k _ H (Ex.refl _ _ _) S (.str _)⟩))
    · cases e
  · rename_i a b
    split at e
    · rename_i hl
      cases e
      cases (show Rp X.K H (Mo C ρ) x (.tuple a) from r1) with
      | tup q1 a1 =>
        cases (show Rp X.K H (Mo C ρ) y (.tuple b) from r2) with
        | tup q2 a2 =>
          refine .inl (.inr ⟨_, _, _, _, rfl, rfl, q1.sq, q2.sq, by rw [a1.length, a2.length]; exact lineOk_le hl, fun z => ?_, fun z z2 => ?_, fun _ _ p hp => k _ _ (Ex.laid S hp) (S.laid hp) (Rp.newTup S hp (a1.append a2))⟩)
          · subst z
            cases a1
            exact k _ H (Ex.refl _ _ _) S (.tup q2 a2)
          · subst z2
            cases a2
            refine k _ H (Ex.refl _ _ _) S ?_
            rw [List.append_nil]
            exact .tup q1 a1
    · cases e
  · split at e
    · rename_i a b e1 e2
      split at e
      · rename_i hl
        cases e
        obtain ⟨p1, v1, rfl, q1, a1⟩ := litems_pl S r1 e1
        obtain ⟨p2, v2, rfl, q2, a2⟩ := litems_pl S r2 e2
        exact .inr ⟨_, _, _, _, rfl, rfl, q1, q2, by rw [a1.length, a2.length]; exact lineOk_le hl, fun p hp => k _ _ (Ex.laid S hp) (S.laid hp) (Rp.newLst S hp (a1.append a2))⟩
      · cases e
    · cases e
end
@[simp] theorem v_addI {i j : Int} {h : Hs} : gAdd (.val (.int i)) (.val (.int j)) h = some (.int (i + j)) := id rfl
theorem v_addT {a b : List PyData} {h : Hs} (hl : a.length + b.length ≤ 16777216) : gAdd (.val (.tuple a)) (.val (.tuple b)) h = some (.tuple (a ++ b)) := by
  show (if lineOk (a.length + b.length) then _ else _) = _
  unfold lineOk
  rw [if_pos (decide_eq_true hl)]
end FL
namespace FL
open PySem PySem.Spec PyProof.Rows L2
/-- which refusal is of which kind -/
def subN (a b : Str) : Bool :=
  a == b || b == ("WayError" : Str) || b == ("ValueError" : Str) || (b == ("NoThing" : Str) && !(([("NoAsk" : Str), "Nothing", "TooMany", "NotNow"].contains a))) || (b == ("NotNow" : Str) && ([("NoAsk" : Str), "Nothing", "TooMany"].contains a))
end FL
theorem L2H.RoomH.units {k : Nat} {A : PySem.Around} (r : L2H.RoomH k A) : A.units + 64 < PySem.cLine := by have := r.un; omega
namespace FL
open PySem PySem.Spec PyProof.Rows L2
def eSaid (tup : Bool) (R : List Str) (mw : Exn → Option PyData) (fe : Ev) : Ev := fun env h => match fe env h with
  | .ok (.val d) h' => .ok (.val (.tuple [.str "told", d])) h'
  | .err x h' => if R.contains x.cls && x.fs.isEmpty then (match mw x with
    | some d => .ok (.val (if tup then .tuple [d] else d)) h'
    | none => .bad) else .bad
  | _ => .bad
/-- a lambda was made -/
def Made (H : Hp) (P c' : Addr) (q : Str) (H1 : Hp) : Prop := H1 = H ∨ ∃ ps ps' : Array Value, H P = some (.tbl ps) ∧ H c' = none ∧ H1 = upd (upd H P (.tbl ps')) c' (LamX.CodeO c' q)
theorem Made.keep {H H1 : Hp} {P c' : Addr} {q : Str} (m : Made H P c' q H1) {b : Addr} {o : HO} (e : H b = some o) : ∃ o', H1 b = some o' ∧ Kp o o' := by
  rcases m with rfl | ⟨ps, ps', hP, hc, rfl⟩
  · exact ⟨o, e, .inl rfl⟩
  · have nc : b ≠ c' := ne_of_none e hc
    by_cases hb : b = P
    · subst hb
      rw [hP] at e
      cases e
      exact ⟨.tbl ps', by rw [upd_ne nc, upd_same], .inr ⟨ps, ps', rfl, rfl⟩⟩
    · exact ⟨o, by rw [upd_ne nc, upd_ne hb]; exact e, .inl rfl⟩
def KeepA (H H1 : Hp) : Prop := ∀ b o, H b = some o → ∃ o', H1 b = some o' ∧ Kp o o'
theorem KeepA.ex {C : Fc} {ρ : Fps} {H H1 : Hp} (m : KeepA H H1) : Ex C ρ H ρ H1 := ⟨⟨fun b o e _ => m b o e, fun _ z => .inl z⟩, fun _ fp e => ⟨fp, e, pfx_rfl⟩⟩
theorem Made.ex {C : Fc} {ρ : Fps} {H H1 : Hp} {P c' : Addr} {q : Str} (m : Made H P c' q H1) : Ex C ρ H ρ H1 := ⟨⟨fun _ _ e _ => m.keep e, fun _ z => .inl z⟩, fun _ fp e => ⟨fp, e, pfx_rfl⟩⟩
end FL
theorem L2.Room.u65 {k : Nat} {A : PySem.Around} (r : L2.Room k A) : A.units + 65 < PySem.cLine := by have := r.un; omega
theorem L2H.RoomH.u65 {k : Nat} {A : PySem.Around} (r : L2H.RoomH k A) : A.units + 65 < PySem.cLine := by have := r.un; omega
namespace FL
open PySem PySem.Spec PyProof.Rows L2
def gRepr : GL := fun ss h => match ss with
  | [s] => match dat s h with
    | some d => if shp d && d.showable && decide (d.shown.length ≤ 16777216) then some (.str d.shown) else none
    | none => none
  | _ => none
section
variable {X : Cx} {C : Fc}
theorem call_repr (hg : X.A.guards = some []) (hu : X.A.units + 65 < cLine) : CallR X (.builtin "repr") fun xs H Q => ∃ v d, xs = [v] ∧ Dp X.K H v d ∧ shp d = true ∧ d.showable = true ∧ d.shown.length ≤ sizeLine ∧ Q (.str d.shown) H := by
  rintro pins s σ H xs us Q I r ⟨v, d, rfl, hd, sd, sh, hz, q⟩
  obtain ⟨u, rfl, ru⟩ := Vals.one r
  have fin : ∀ tk t, EP X pins σ Q (.str d.shown t) { s with toks := tk } := fun tk t => ⟨.str d.shown, H, I.tok _, ⟨_, rfl⟩, q⟩
  have nd : d.hasDict = false := PyData.hasDict_of_canLay d (SeqAt.canLay_of_shaped sd)
  have dp := SeqAt.depth_of_shaped sd
  have big : ∀ a, u = .ref a → wpAny (model X.prog X.w) X.A (call (.builtin "repr") [u]) (EP X pins σ Q) X.xe s := by
    rintro a rfl
    obtain ⟨as, rr⟩ := Dp.reads I d v _ hd ru
    exact repr_of_reads' rr sh (PyData.noDict_hsm nd) hg (by omega) (fun _ _ e => e) (fun h' t tk hk => ⟨.str d.shown, H, I.kept (t' := tk) hk, ⟨_, rfl⟩, q⟩) hz
  cases hd with
  | non => cases ru; exact PySem.P.repr_of_none (fin _ _)
  | bl b => cases ru; exact PySem.P.repr_of_bool (fin _ _)
  | int i =>
    obtain ⟨t, rfl⟩ := ru
    exact PySem.P.repr_of_int (of_decide_eq_true sh) (fin _ _)
  | str x =>
    obtain ⟨t, rfl⟩ := ru
    exact PySem.P.repr_of_str (fin _ _) hz
  | lst _ _ => exact big _ ru
  | tup _ _ => exact big _ ru
theorem c_repr (hg : X.A.guards = some []) (hu : X.A.units + 65 < cLine) : CallR X (.builtin "repr") (rdC X.K C gRepr) := fun pins s σ H xs us Q I r ⟨ρ, h, ss, d, S, r1, e, k⟩ => by
  refine call_repr hg hu pins s σ H xs us Q I r ?_
  unfold gRepr at e
  split at e
  · rename_i t
    split at e
    · rename_i z ez
      split at e
      · rename_i c
        rw [Bool.and_eq_true, Bool.and_eq_true] at c
        obtain ⟨⟨c1, c2⟩, c3⟩ := c
        cases e
        obtain ⟨y, rfl, ry⟩ := SlVs.one r1
        exact ⟨y, z, rfl, dat_rel S ry ez (shp_nd c1), c1, c2, by rw [sizeLine_eq]; exact of_decide_eq_true c3, k _ H (Ex.refl _ _ _) S (.str _)⟩
      · cases e
    · cases e
  · cases e
end
end FL
namespace FL
open PySem PySem.Spec PyProof.Rows L2
@[simp] theorem v_said {tup : Bool} {R : List Str} {mw : Exn → Option PyData} {fe : Ev} {env : En} {h h' : Hs} {d : PyData} (e : fe env h = .ok (.val d) h') : eSaid tup R mw fe env h = .ok (.val (.tuple [.str "told", d])) h' := by
  unfold eSaid
  rw [e]
end FL
namespace FL
open PySem PySem.Spec PyProof.Rows L2
theorem fe_dnil {X : Cx} {C : Fc} {Wx : WX} {pos : Pos} : FE X C Wx (.Dict [] [] pos) (eK (.dict [])) := PE.imp pe_dnewK fun σ H Q ⟨ρ, env, h, S, E, P⟩ => fun p hp =>
  P ρ (.ref p) _ (Ex.laid S hp) (S.laid hp) (.dct (.dic []) ⟨upd_same, S.fresh hp⟩ rfl)
end FL
namespace FL
open PySem PySem.Spec PyProof.Rows L2
def kitB (K : PySem.W.Frag) (D : Addr) (a y : Str) : Bool := match PySem.W.nsIn K mainGlobals y with
  | some (some (.ref c)) => PySem.W.kitOne K (.ref D) (.ref c) == some (subN a y)
  | some none => (!(y == ("__name__" : Str))) && (match bootBuiltins y with
    | some (.type n) => PySem.W.kitOne K (.ref D) (.type n) == some (subN a y)
    | _ => false)
  | _ => false
/-- a class of refusals without fields, with all that is asked of it -/
def clsB (K : PySem.W.Frag) (x : Str) : Bool := match PySem.W.nsIn K mainGlobals x with
  | some (some (.ref D)) => PySem.W.excIn K D [.type "ValueError", .type "Exception", .type "BaseException", .type "object"] "ValueError.__new__" && PySem.W.keepIn K (.ref D) && PySem.W.subIn K (.ref D) (.type "BaseException") == some true && PySem.W.typeIn K (.ref D) == some (.type "type")
  | _ => false
theorem clsB_ok {K : PySem.W.Frag} {h : Heap} {mg : Str → Option Value} {x : Str} (X : K.In h) (G : h.Ns mainGlobals mg) (e : clsB K x = true) : ∃ c, ExCls K mg x c := by
  unfold clsB at e
  split at e
  · rename_i D hD
    simp only [Bool.and_eq_true] at e
    obtain ⟨⟨⟨h1, h2⟩, h3⟩, h4⟩ := e
    exact ⟨D, PySem.W.mg_of X G hD, h1, h2, eq_of_beq h3, eq_of_beq h4⟩
  · cases e
def tpOf (K : PySem.W.Frag) (x : Str) : Addr := ((PySem.W.tabIn K x).getD (0, 0)).2
def lamQ (x : Str) : Str := x ++ ".<locals>." ++ "<lambda>"
def tabT (K : PySem.W.Frag) (xs : List Str) : List (Addr × Str) := xs.map fun x => (tpOf K x, lamQ x)
end FL
namespace FL
open PySem PySem.Spec PyProof.Rows L2
def gTupRg : Sl → Hs → Option PyData := fun s _ => match s with
  | .val (.int n) => if -(2 ^ 62) ≤ n ∧ n ≤ 16777216 then some (.tuple (upTo 0 n.toNat)) else none
  | _ => none
end FL
namespace FL
open PySem PySem.Spec PyProof.Rows L2
def Nx (r : Fl) (P : En → Hs → Prop) : Prop := ∃ e h, r = .next e h ∧ P e h
theorem Nx.of {r : Fl} {e : En} {h : Hs} {P : En → Hs → Prop} (q : r = .next e h) (p : P e h) : Nx r P := ⟨e, h, q, p⟩
theorem Nx.mono {r : Fl} {P Q : En → Hs → Prop} (x : Nx r P) (i : ∀ e h, P e h → Q e h) : Nx r Q := let ⟨e, h, q, p⟩ := x; ⟨e, h, q, i e h p⟩
theorem Nx.seq {p q : Sv} {env : En} {h : Hs} {A B : En → Hs → Prop} (x : Nx (p env h) A) (y : ∀ e h, A e h → Nx (q e h) B) : Nx (sSeq p q env h) B := by
  obtain ⟨e, h1, q1, a⟩ := x
  rw [v_seq, q1, v_seqN]
  exact y e h1 a
theorem Nx.loop {tg : Tg} {p : Sv} {n : Nat} {I : En → Hs → Prop} : ∀ {ds : List PyData}, (∀ d ∈ ds, ∀ env h, I env h → ∃ e1, tg.put d env = some e1 ∧ Nx (p e1 h) fun e h => I (cutE n e) (h.take n)) → ∀ {env : En} {h : Hs}, I env h → Nx (loopF tg p n ds env h) I
  | [], _, env, h, i => ⟨env, h, rfl, i⟩
  | d :: ds, st, env, h, i => by
    obtain ⟨e1, q1, e, h1, q2, j⟩ := st d List.mem_cons_self env h i
    unfold loopF
    rw [q1]
    dsimp only
    rw [q2]
    exact Nx.loop (fun d m => st d (List.mem_cons_of_mem _ m)) j
/-- .. by what is left -/
theorem Nx.loopR {tg : Tg} {p : Sv} {n : Nat} {I : List PyData → En → Hs → Prop} : ∀ {ds : List PyData}, (∀ d rest env h, I (d :: rest) env h → ∃ e1, tg.put d env = some e1 ∧ Nx (p e1 h) fun e h => I rest (cutE n e) (h.take n)) → ∀ {env : En} {h : Hs}, I ds env h → Nx (loopF tg p n ds env h) (I [])
  | [], _, env, h, i => ⟨env, h, rfl, i⟩
  | d :: ds, st, env, h, i => by
    obtain ⟨e1, q1, e, h1, q2, j⟩ := st d ds env h i
    unfold loopF
    rw [q1]
    dsimp only
    rw [q2]
    exact Nx.loopR st j
theorem Nx.forR {src : En → Hs → Rz (List PyData)} {tg : Tg} {p : Sv} {ds : List PyData} {env : En} {h h1 : Hs} {I : List PyData → En → Hs → Prop} (q : src env h = .ok ds h1) (i : I ds env h1)
    (st : ∀ d rest env h, I (d :: rest) env h → ∃ e1, tg.put d env = some e1 ∧ Nx (p e1 h) fun e h => I rest (cutE h1.length e) (h.take h1.length)) : Nx (sFor src tg p env h) (I []) := by
  rw [v_for, q, v_fl]
  exact Nx.loopR st i
theorem Nx.for_ {src : En → Hs → Rz (List PyData)} {tg : Tg} {p : Sv} {ds : List PyData} {env : En} {h h1 : Hs} {I : En → Hs → Prop} (q : src env h = .ok ds h1) (i : I env h1)
    (st : ∀ d ∈ ds, ∀ env h, I env h → ∃ e1, tg.put d env = some e1 ∧ Nx (p e1 h) fun e h => I (cutE h1.length e) (h.take h1.length)) : Nx (sFor src tg p env h) I := by
  rw [v_for, q, v_fl]
  exact Nx.loop st i
/-- a test that is not met -/
theorem Nx.if_f {c : Tv} {p q : Sv} {env : En} {h h1 : Hs} {P : En → Hs → Prop} (e : c env h = .ok false h1) (x : Nx (q env h1) P) : Nx (sIf c p q env h) P := by
  rw [v_sif, e, v_fl]
  simpa using x
theorem Nx.if_t {c : Tv} {p q : Sv} {env : En} {h h1 : Hs} {P : En → Hs → Prop} (e : c env h = .ok true h1) (x : Nx (p env h1) P) : Nx (sIf c p q env h) P := by
  rw [v_sif, e, v_fl]
  simpa using x
theorem Nx.seqSet {i : Nat} {f : Ev} {q : Sv} {env : En} {h h1 : Hs} {s : Sl} {P : En → Hs → Prop} (e : f env h = .ok s h1) (y : Nx (q (env.set i (some s)) h1) P) : Nx (sSeq (sSet i f) q env h) P := by
  rw [v_seq, v_set, e, v_fl, v_seqN]
  exact y
theorem Nx.seqEq {p q : Sv} {env e1 : En} {h h1 : Hs} {P : En → Hs → Prop} (e : p env h = .next e1 h1) (y : Nx (q e1 h1) P) : Nx (sSeq p q env h) P := by
  rw [v_seq, e, v_seqN]
  exact y
structure Rk (w k : Nat) (d : PyData) : Prop where
  lay : d.canLay0 = true
  dep : d.depth ≤ k
  sh : d.showable = true
  len : d.shown.length ≤ w
theorem Rk.mono {w w' k k' : Nat} {d : PyData} (r : Rk w k d) (h1 : w ≤ w') (h2 : k ≤ k') : Rk w' k' d := ⟨r.lay, Nat.le_trans r.dep h2, r.sh, Nat.le_trans r.len h1⟩
theorem Rk.none : Rk 4 0 .none := ⟨by rfl, by simp [PyData.depth], by rfl, by decide⟩
theorem Rk.bool {b : Bool} : Rk 5 0 (.bool b) := ⟨by rfl, by simp [PyData.depth], by rfl, by cases b <;> decide⟩
theorem Rk.int {i : Int} (h : i.natAbs < 2 ^ 1920) : Rk 1921 0 (.int i) := by
  have q : i.natAbs.log2 < 1920 := by
    by_cases z : i.natAbs = 0
    · rw [z]; decide
    · exact (Nat.log2_lt z).mpr h
  refine ⟨by rfl, by simp [PyData.depth], by simp [PyData.showable, q], ?_⟩
  have := int_text_length_le (by decide) q
  have e : (PyData.shown (.int i)).length = (toString i).length := by
    show (Str.ofString (toString i)).length = _
    exact PySem.ofString_length _
  rw [e]; exact this
theorem Rk.small {i : Int} (h1 : -9223372036854775808 ≤ i) (h2 : i < 9223372036854775808) : Rk 1921 0 (.int i) := Rk.int (Nat.lt_of_lt_of_le (show i.natAbs < 2 ^ 64 by omega) (Nat.pow_le_pow_right (by decide) (by decide)))
theorem lay_all {ds : List PyData} {w k : Nat} (h : ∀ d ∈ ds, Rk w k d) : PyData.canLayAll0 ds = true ∧ PyData.depthAll ds ≤ k ∧ PyData.showableAll ds = true ∧ ((PyData.shownAll ds).map (·.length)).sum ≤ ds.length * w ∧ (PyData.shownAll ds).length = ds.length := by
  induction ds with
  | nil => simp [PyData.canLayAll0, PyData.depthAll, PyData.showableAll, PyData.shownAll]
  | cons d ds ih =>
    obtain ⟨a, b, c, e, f⟩ := ih fun x m => h x (List.mem_cons_of_mem _ m)
    obtain ⟨h1, h2, h3, h4⟩ := h d List.mem_cons_self
    refine ⟨by simp [PyData.canLayAll0, h1, a], by simp [PyData.depthAll]; omega, by simp [PyData.showableAll, h3, c], ?_, by simp [PyData.shownAll, f]⟩
    simp only [PyData.shownAll, List.map_cons, List.sum_cons, List.length_cons, Nat.add_mul, Nat.one_mul]
    omega
theorem Rk.tuple {w k : Nat} {ds : List PyData} (h : ∀ d ∈ ds, Rk w k d) : Rk (ds.length * (w + 2) + 3) (k + 1) (.tuple ds) := by
  obtain ⟨a, b, c, e, f⟩ := lay_all h
  refine ⟨by simpa [PyData.canLay0] using a, by simp [PyData.depth]; omega, by simpa [PyData.showable] using c, ?_⟩
  have := tupleText_len_le (PyData.shownAll ds)
  simp only [PyData.shown, Nat.mul_add]
  omega
theorem Rk.list {w k : Nat} {ds : List PyData} (h : ∀ d ∈ ds, Rk w k d) : Rk (ds.length * (w + 2) + 3) (k + 1) (.list ds) := by
  obtain ⟨a, b, c, e, f⟩ := lay_all h
  refine ⟨by simpa [PyData.canLay0] using a, by simp [PyData.depth]; omega, by simpa [PyData.showable] using c, ?_⟩
  have := listText_len_le (PyData.shownAll ds)
  simp only [PyData.shown, Nat.mul_add]
  omega
theorem Rk.shp {w k : Nat} {d : PyData} (r : Rk w k d) (hk : k ≤ 64) : shp d = true := by
  unfold FL.shp SeqAt.shaped
  rw [r.lay, decide_eq_true (Nat.le_trans r.dep hk)]
  rfl
theorem v_repr {w k : Nat} {d : PyData} {s : Sl} {h : Hs} (e : dat s h = some d) (r : Rk w k d) (hk : k ≤ 64) (hw : w ≤ 16777216) : gRepr [s] h = some (.str d.shown) := by
  show (match dat s h with | some d => _ | none => none) = _
  rw [e]
  dsimp only
  rw [r.shp hk, r.sh, decide_eq_true (Nat.le_trans r.len hw)]
  rfl
end FL
namespace FL
open PySem PySem.Spec PyProof.Rows L2
/-- a road, a net -/
structure Road where
  one : Nat
  other : Nat
  cost : Nat
  time : Nat
def Road.d (r : Road) : PyData := .tuple [.int r.one, .int r.other, .int r.cost, .int r.time]
def netD (n : Nat) (rs : List Road) : PyData := .tuple [.int n, .tuple (rs.map Road.d)]
structure Road.Ok (n : Nat) (r : Road) : Prop where
  one : r.one < n
  other : r.other < n
  ne : r.one ≠ r.other
  c1 : 1 ≤ r.cost
  c2 : r.cost ≤ 99
  t : r.time ≤ 99
structure NetOk (n : Nat) (rs : List Road) : Prop where
  n1 : 1 ≤ n
  n2 : n ≤ 10
  len : rs.length ≤ 30
  all : ∀ r ∈ rs, r.Ok n
theorem cut_to {ds : List PyData} {k : Nat} : cutD ds none (some (k : Int)) = ds.take k := by
  unfold cutD
  rw [HT.sIx_nat, HT.sIx_none, List.drop_zero, Nat.sub_zero]
  by_cases q : k ≤ ds.length
  · rw [Nat.min_eq_left q]
  · rw [Nat.min_eq_right (by omega), List.take_of_length_le (Nat.le_refl _), List.take_of_length_le (by omega)]
theorem cut_to2 {ds : List PyData} : cutD ds none (some 2) = ds.take 2 := cut_to (k := 2)
@[simp] theorem putAt_ {n : Nat} {i : Int} {d : PyData} {h : Hs} : putAt (.loc n) (.val (.int i)) (.val d) h = match h[n]? with
    | some (.lst ds) => (match ixN ds.length i with
      | some j => some (h.set n (.lst (ds.set j d)))
      | none => none)
    | _ => none := id rfl
theorem ixN_nat {n k : Nat} (h : k < n) : ixN n (k : Int) = some k := by
  unfold ixN
  rw [if_pos (Int.natCast_nonneg k), if_pos (by omega)]
  rfl
@[simp] theorem v_outR {k : Nat} {ds : List PyData} {h : Hs} (hn : noLs ds = true) (e : h[k]? = some (.lst ds)) {fr : Bool} : outD fr k (.loc k) h = .ok (.list ds) (h.take k) := by
  unfold outD
  simp [e, hn]
@[simp] theorem v_mt {m : GM} {f : Ev} {a : Av} {env : En} {h : Hs} : eMt m f a env h = (f env h).bind fun s h => if (litems s h).isSome = true then (a env h).bind fun ss h => match m s ss h with
  | some (d, h') => .ok (.val d) h'
  | none => .bad else .bad := id rfl
@[simp] theorem v_app {n : Nat} {d : PyData} {h : Hs} : mAppend (.loc n) [.val d] h = match h[n]? with
    | some (.lst ds) => if ds.length < 16777216 then some (.none, h.set n (.lst (ds ++ [d]))) else none
    | _ => none := id rfl
@[simp] theorem v_augIx {g : G2} {fo fi fe : Ev} {env : En} {h : Hs} : sAugIx g fo fi fe env h = (fo env h).fl env fun s h => (fi env h).fl env fun t h => match lix s t h with
  | some x => (fe env h).fl env fun u h => match g (.val x) u h with
    | some d => match putAt s t (.val d) h with
      | some h' => .next env h'
      | none => .bad
    | none => .bad
  | none => .bad := id rfl
structure Dr where
  a : Nat
  b : Nat
  hb : b < 2147483647
def Dr.o (s : Dr) : Ob := .lst [.int s.a, .int s.b]
def Dr.b1 (s : Dr) : Nat := (s.b * 48271 + 29) % 2147483647
def Dr.x1 (s : Dr) : Nat := (s.b1 * s.b1 + 39373 * s.b1 + 7) % 2147483629
def Dr.x2 (s : Dr) : Nat := (s.x1 * s.x1 + 16807 * s.x1) % 2147483587
def Dr.tk (s : Dr) (far : Int) : Int := if 0 < s.a then s.a % far else s.x2 / 8 % far
def Dr.nx (s : Dr) (far : Int) : Dr := if 0 < s.a then ⟨(s.a / far).toNat, s.b, s.hb⟩ else ⟨0, s.b1, Nat.mod_lt _ (by decide)⟩
@[simp] theorem tk_nn {s : Dr} {far : Int} (h : 0 < far) : 0 ≤ s.tk far := by
  unfold Dr.tk
  split <;> exact Int.emod_nonneg _ (by omega)
@[simp] theorem tk_lt {s : Dr} {far : Int} (h : 0 < far) : s.tk far < far := by
  unfold Dr.tk
  split <;> exact Int.emod_lt_of_pos _ h
@[simp] theorem v_put {fo fi fe : Ev} {env : En} {h : Hs} : sPut fo fi fe env h = (fe env h).fl env fun u h => (fo env h).fl env fun s h => (fi env h).fl env fun t h => match putAt s t u h with
  | some h' => .next env h'
  | none => .bad := id rfl
@[simp] theorem ix0 {n : Nat} : ixN (n + 1) 0 = some 0 := ixN_nat (k := 0) (by omega)
@[simp] theorem ix1 {n : Nat} : ixN (n + 2) 1 = some 1 := ixN_nat (k := 1) (by omega)
theorem pick2 {a b i : Int} (h1 : 0 ≤ i) (h2 : i < 2) : atI [PyData.int a, .int b] i = some (.int (if i = 0 then a else b)) := by
  rcases (by omega : i = 0 ∨ i = 1) with rfl | rfl <;> rfl
theorem pick3 {a b c i : Int} (h1 : 0 ≤ i) (h2 : i < 3) : atI [PyData.int a, .int b, .int c] i = some (.int (if i = 0 then a else if i = 1 then b else c)) := by
  rcases (by omega : i = 0 ∨ i = 1 ∨ i = 2) with rfl | rfl | rfl <;> rfl
@[simp] theorem pick2t {a b : Int} {s : Dr} : atI [PyData.int a, .int b] (s.tk 2) = some (.int (if s.tk 2 = 0 then a else b)) := pick2 (tk_nn (by decide)) (tk_lt (by decide))
@[simp] theorem pick3t {a b c : Int} {s : Dr} : atI [PyData.int a, .int b, .int c] (s.tk 3) = some (.int (if s.tk 3 = 0 then a else if s.tk 3 = 1 then b else c)) := pick3 (tk_nn (by decide)) (tk_lt (by decide))
theorem line_s {n : Nat} {z : PyData} (hn : n ≤ 4) : line? n z = some z := v_line (by omega)
theorem mod_wrap {a y n : Int} (h1 : 0 ≤ a) (h2 : a < n) (h3 : 1 ≤ y) (h4 : y < n) : 0 ≤ (a + y) % n ∧ (a + y) % n < n ∧ a ≠ (a + y) % n := by
  have h5 : 0 < n := by omega
  refine ⟨Int.emod_nonneg _ (by omega), Int.emod_lt_of_pos _ h5, ?_⟩
  by_cases q : a + y < n
  · rw [Int.emod_eq_of_lt (by omega) q]; omega
  · have e : (a + y) % n = (a + y - n) % n := by rw [Int.sub_emod_right]
    rw [e, Int.emod_eq_of_lt (by omega) (by omega)]; omega
theorem call_e {m : Fm} {fr : Bool} {io : List Bool} {ss : List Sl} {ds : List PyData} {x : Exn} {h : Hs} (hv : vals? ss = some ds) (hi : io = ss.map fun _ => false) (e : m ds [] = .err x []) : callF m io fr ss h = .err x h := by
  have w : ∀ (ss : List Sl) (ds : List PyData), vals? ss = some ds → splitA (ss.map fun _ => false) ss h = some (ds, [], [], []) := by
    intro ss
    induction ss with
    | nil => intro ds q; cases q; rfl
    | cons s r ih =>
      intro ds q
      cases s with
      | loc n => cases q
      | inn n i => cases q
      | exn y => cases q
      | val d =>
        have q' : (vals? r).map (d :: ·) = some ds := q
        cases q2 : vals? r with
        | none => rw [q2] at q'; cases q'
        | some rs =>
          rw [q2] at q'
          cases q'
          simp only [List.map_cons, splitA, ih rs q2, dat0]
  subst hi
  unfold callF
  rw [w ss ds hv]
  dsimp only
  rw [if_pos ⟨rfl, Or.inl rfl⟩, e]
  dsimp only
  rw [if_pos (Or.inl rfl)]
  rfl
section
variable {m : Fm} {fr : Bool} {x : Exn} {h : Hs} {x1 x2 x3 x4 x5 x6 z : PyData}
@[simp] theorem call1e (e : m [x1] [] = .err x []) : callF m [false] fr [.val x1] h = .err x h := call_e rfl rfl e
@[simp] theorem call2e (e : m [x1, x2] [] = .err x []) : callF m [false, false] fr [.val x1, .val x2] h = .err x h := call_e rfl rfl e
@[simp] theorem call3e (e : m [x1, x2, x3] [] = .err x []) : callF m [false, false, false] fr [.val x1, .val x2, .val x3] h = .err x h := call_e rfl rfl e
@[simp] theorem call4e (e : m [x1, x2, x3, x4] [] = .err x []) : callF m [false, false, false, false] fr [.val x1, .val x2, .val x3, .val x4] h = .err x h := call_e rfl rfl e
@[simp] theorem call5e (e : m [x1, x2, x3, x4, x5] [] = .err x []) : callF m [false, false, false, false, false] fr [.val x1, .val x2, .val x3, .val x4, .val x5] h = .err x h := call_e rfl rfl e
@[simp] theorem call6e (e : m [x1, x2, x3, x4, x5, x6] [] = .err x []) : callF m [false, false, false, false, false, false] fr [.val x1, .val x2, .val x3, .val x4, .val x5, .val x6] h = .err x h := call_e rfl rfl e
@[simp] theorem call5 (e : m [x1, x2, x3, x4, x5] [] = .ok z []) : callF m [false, false, false, false, false] fr [.val x1, .val x2, .val x3, .val x4, .val x5] h = .ok (.val z) h := call_d rfl rfl e
@[simp] theorem call6 (e : m [x1, x2, x3, x4, x5, x6] [] = .ok z []) : callF m [false, false, false, false, false, false] fr [.val x1, .val x2, .val x3, .val x4, .val x5, .val x6] h = .ok (.val z) h := call_d rfl rfl e
end
def said? (tup : Bool) (R : List Str) (mw : Exn → Option PyData) (r : Rz Sl) : Rz Sl := match r with
  | .ok (.val d) h' => .ok (.val (.tuple [.str "told", d])) h'
  | .err x h' => if R.contains x.cls && x.fs.isEmpty then (match mw x with
    | some d => .ok (.val (if tup then .tuple [d] else d)) h'
    | none => .bad) else .bad
  | _ => .bad
section
variable {tup : Bool} {R : List Str} {mw : Exn → Option PyData} {fe : Ev} {env : En} {h : Hs} {d : PyData} {x : Str}
@[simp] theorem v_said2 : eSaid tup R mw fe env h = said? tup R mw (fe env h) := by unfold eSaid said?; rfl
@[simp] theorem said_ok : said? tup R mw (.ok (.val d) h) = .ok (.val (.tuple [.str "told", d])) h := id rfl
end
theorem v_neS {x y : Str} {h : Hs} : gNe (.val (.str x)) (.val (.str y)) h = some (.bool (!decide (x = y))) := by
  show some (PyData.bool (!PyData.eqv (.str x) (.str y))) = _
  by_cases q : x = y <;> simp [PyData.eqv, q]
@[simp] theorem v_neSS {x : Str} {h : Hs} : gNe (.val (.str x)) (.val (.str x)) h = some (.bool false) := by
  rw [v_neS, decide_eq_true rfl]; rfl
@[simp] theorem v_isaD {c : String} {ps : List (PyData × PyData)} {h : Hs} : gIsa c (.val (.dict ps)) h = some (.bool (isaN c "dict")) := id rfl
@[simp] theorem v_isb1 : isaN "int" "dict" = false := by decide
@[simp] theorem v_isb2 : isaN "tuple" "dict" = false := by decide
@[simp] theorem v_isb3 : isaN "list" "dict" = false := by decide
@[simp] theorem v_isb4 : isaN "str" "dict" = false := by decide
@[simp] theorem v_isb5 : isaN "str" "int" = false := by decide
@[simp] theorem v_isb6 : isaN "str" "bool" = false := by decide
@[simp] theorem v_isb7 : isaN "str" "list" = false := by decide
@[simp] theorem v_isb8 : isaN "str" "tuple" = false := by decide
@[simp] theorem v_isb9 : isaN "str" "NoneType" = false := by decide
@[simp] theorem v_isc1 : isaN "list" "int" = false := by decide
@[simp] theorem v_isc2 : isaN "list" "bool" = false := by decide
@[simp] theorem v_isc3 : isaN "list" "str" = false := by decide
@[simp] theorem v_isc4 : isaN "list" "NoneType" = false := by decide
/-- a whole number from one to another one -/
def amB (d : PyData) (a b : Int) : Bool := match d with
  | .int i => decide (a ≤ i) && decide (i ≤ b)
  | _ => false
@[simp] theorem amB_int {i a b : Int} : amB (.int i) a b = (decide (a ≤ i) && decide (i ≤ b)) := id rfl
@[simp] theorem amB_none {a b : Int} : amB .none a b = false := id rfl
@[simp] theorem amB_bool {x : Bool} {a b : Int} : amB (.bool x) a b = false := id rfl
@[simp] theorem amB_str {x : Str} {a b : Int} : amB (.str x) a b = false := id rfl
@[simp] theorem amB_list {x : List PyData} {a b : Int} : amB (.list x) a b = false := id rfl
@[simp] theorem amB_tuple {x : List PyData} {a b : Int} : amB (.tuple x) a b = false := id rfl
@[simp] theorem amB_dict {x : List (PyData × PyData)} {a b : Int} : amB (.dict x) a b = false := id rfl
def natsD (ws : List Nat) : List PyData := ws.map fun w => .int (w : Nat)
theorem eqv_int {i j : Int} : PyData.eqv (.int i) (.int j) = (i == j) := by simp [PyData.eqv]
theorem any_nats {ws : List Nat} {r : Nat} : ((natsD ws).any fun z => PyData.eqv z (.int (r : Nat))) = ws.contains r := by
  induction ws with
  | nil => rfl
  | cons w ws ih =>
    have e : ((natsD (w :: ws)).any fun z => PyData.eqv z (.int (r : Nat))) = (PyData.eqv (.int (w : Nat)) (.int (r : Nat)) || (natsD ws).any fun z => PyData.eqv z (.int (r : Nat))) := rfl
    rw [e, ih, eqv_int, List.contains_cons]
    congr 1
    by_cases q : w = r
    · subst q
      rw [beq_self_eq_true, beq_self_eq_true]
    · have q1 : ¬ (w : Int) = (r : Int) := by omega
      have q2 : ¬ r = w := fun z => q z.symm
      rw [beq_eq_false_iff_ne.mpr q1, beq_eq_false_iff_ne.mpr q2]
theorem upTo_nats {m : Nat} : upTo 0 m = natsD (List.range m) := by
  unfold upTo natsD
  refine List.map_congr_left fun k _ => ?_
  rw [Int.zero_add]
@[simp] theorem v_tupRg {m : Nat} {h : Hs} (hm : m ≤ 16777216) : gTupRg (.val (.int (m : Nat))) h = some (.tuple (natsD (List.range m))) := by
  show (if -(2 ^ 62) ≤ (m : Int) ∧ (m : Int) ≤ 16777216 then some (PyData.tuple (upTo 0 (m : Int).toNat)) else none) = _
  rw [if_pos ⟨by omega, by omega⟩, Int.toNat_natCast, upTo_nats]
@[simp] theorem v_negI {i : Int} {h : Hs} : gNeg (.val (.int i)) h = some (.int (-i)) := id rfl
mutual
theorem eqv_self : ∀ d : PyData, d.canLay0 = true → PyData.eqv d d = true
  | .none, _ => by simp [PyData.eqv]
  | .bool _, _ => by simp [PyData.eqv]
  | .int _, _ => by simp [PyData.eqv]
  | .str _, _ => by simp [PyData.eqv]
  | .list xs, h => by simpa [PyData.eqv] using eqvAll_self xs (by simpa [PyData.canLay0] using h)
  | .tuple xs, h => by simpa [PyData.eqv] using eqvAll_self xs (by simpa [PyData.canLay0] using h)
  | .dict _, h => by simp [PyData.canLay0] at h
theorem eqvAll_self : ∀ xs : List PyData, PyData.canLayAll0 xs = true → PyData.eqvAll xs xs = true
  | [], _ => by simp [PyData.eqvAll]
  | x :: xs, h => by
    have h' : x.canLay0 = true ∧ PyData.canLayAll0 xs = true := by simpa [PyData.canLayAll0] using h
    simp [PyData.eqvAll, eqv_self x h'.1, eqvAll_self xs h'.2]
end
theorem v_ne_self {w k : Nat} {d : PyData} {h : Hs} (r : Rk w k d) (hk : k ≤ 64) : gNe (.val d) (.val d) h = some (.bool false) := by
  show (if eqOk d d then some (PyData.bool (!PyData.eqv d d)) else none) = _
  have e : eqOk d d = true := by
    unfold eqOk
    split
    · rfl
    · rw [r.shp hk]; rfl
  rw [e, eqv_self d r.lay]
  rfl
theorem cut_from {ds : List PyData} {k : Nat} : cutD ds (some (k : Int)) none = ds.drop k := by
  unfold cutD
  rw [HT.sIx_nat, HT.sIx_none]
  by_cases q : k ≤ ds.length
  · rw [Nat.min_eq_left q, List.take_of_length_le (by rw [List.length_drop]; omega)]
  · rw [Nat.min_eq_right (by omega), List.drop_of_length_le (Nat.le_refl _), List.drop_of_length_le (by omega)]
    simp
theorem enum_cons {j : Nat} {d : PyData} {ds : List PyData} : enumD j (d :: ds) = .tuple [.int j, d] :: enumD (j + 1) ds := rfl
@[simp] theorem v_srcEnum {f : Av} {env : En} {h : Hs} : srcEnum f env h = (f env h).bind fun ss h => match ss with
  | [.val (.tuple ds)] => .ok (enumD 0 ds) h
  | [.val (.list ds)] => .ok (enumD 0 ds) h
  | _ => .bad := id rfl
end FL
namespace FL
open PySem PySem.Spec PyProof.Rows L2
def frzS (n : Nat) (d : PyData) (s : Slot) : Slot := match s with
  | some (.loc k) => if k = n then some (.val d) else some (.loc k)
  | some (.inn k i) => if k = n then none else some (.inn k i)
  | s => s
def obD (o : Option Ob) : Option PyData := match o with
  | some (.lst ds) => some (.list ds)
  | some (.lls dss) => some (.list (dss.map .list))
  | _ => none
def frz? (k i : Nat) (env : En) (h : Hs) : Option (En × Hs) := match env[i]? with
  | some (some (.loc n)) => if k ≤ n then (obD h[n]?).map fun d => (env.map (frzS n d), h.set n .gone) else none
  | some (some (.val _)) => some (env, h)
  | _ => none
/-- the object at a slot becomes data, then the rest -/
def sFrz (k i : Nat) (g : Sv) : Sv := fun env h => match frz? k i env h with
  | some (e, h) => g e h
  | none => .bad
theorem flat_set {ρ : Fps} {n : Nat} {a : Addr} (m : a ∈ (ρ.set n []).flatten) : a ∈ ρ.flatten := by
  obtain ⟨fp, h1, h2⟩ := List.mem_flatten.mp m
  rcases List.mem_or_eq_of_mem_set h1 with z | z
  · exact List.mem_flatten.mpr ⟨fp, z, h2⟩
  · subst z; cases h2
theorem flat_set_nd : ∀ {ρ : Fps} {n : Nat}, ρ.flatten.Nodup → (ρ.set n []).flatten.Nodup
  | [], _, h => h
  | fp :: ρ, 0, h => by
    rw [List.flatten_cons, List.nodup_append] at h
    simpa using h.2.1
  | fp :: ρ, n + 1, h => by
    rw [List.flatten_cons, List.nodup_append] at h
    rw [List.set_cons_succ, List.flatten_cons, List.nodup_append]
    exact ⟨h.1, flat_set_nd h.2.1, fun x hx y hy => h.2.2 x hx y (flat_set hy)⟩
section
variable {K : PySem.W.Frag} {C : Fc} {ρ : Fps} {h : Hs} {H : Hp}
theorem Mo.gone {n : Nat} {b : Addr} (m : Mo C (ρ.set n []) b) : Mo C ρ b := m.imp flat_set id
theorem Mo.out {n : Nat} {fp : List Addr} {a : Addr} (S : SimH K C ρ h H) (e : ρ[n]? = some fp) (ma : a ∈ fp) : ¬ Mo C (ρ.set n []) a := fun m => by
  rcases m with m | m
  · obtain ⟨fq, h1, h2⟩ := List.mem_flatten.mp m
    obtain ⟨k, hk, ek⟩ := List.getElem_of_mem h1
    have e2 : (ρ.set n [])[k]? = some fq := by rw [← ek]; exact List.getElem?_eq_getElem hk
    by_cases q : n = k
    · subst q
      rw [List.getElem?_set, if_pos rfl] at e2
      split at e2
      · cases e2; cases h2
      · cases e2
    · rw [List.getElem?_set_ne q] at e2
      exact q (nodup_apart S.nd e e2 ma h2)
  · exact (S.bar a m).1 (flat_at e ma)
theorem SimH.gone (S : SimH K C ρ h H) {n : Nat} (hn : C.W.length ≤ n) : SimH K C (ρ.set n []) (h.set n .gone) H where
  len := by rw [List.length_set, List.length_set]; exact S.len
  nd := flat_set_nd S.nd
  trk := fun a m => S.trk a (flat_set m)
  obj := fun k fp o e1 e2 => by
    by_cases q : n = k
    · subst q
      rw [List.getElem?_set, if_pos rfl] at e1 e2
      split at e1
      · cases e1
        split at e2
        · cases e2; exact rfl
        · cases e2
      · cases e1
    · rw [List.getElem?_set_ne q] at e1 e2
      exact ObOk.fewer (fun _ => Mo.gone) (S.obj k fp o e1 e2)
  frK := S.frK
  own := fun a m => S.own a (flat_set m)
  bar := fun b m => ⟨fun z => (S.bar b m).1 (flat_set z), (S.bar b m).2⟩
  wtr := S.wtr
  pre := fun k fp e => by
    have e' := S.pre k fp e
    have := (List.getElem?_eq_some_iff.mp e).1
    rw [List.getElem?_set_ne (by omega)]
    exact e'
  tab := S.tab
  bnt := S.bnt
/-- what stood there, as data -/
theorem obD_rel (S : SimH K C ρ h H) {n : Nat} {fp : List Addr} {a : Addr} {d : PyData} (e1 : ρ[n]? = some fp) (e2 : fp.head? = some a) (e3 : obD h[n]? = some d) : Rp K H (Mo C (ρ.set n [])) (.ref a) d := by
  unfold obD at e3
  split at e3
  · rename_i ds e4
    cases e3
    obtain ⟨e1', vs, q, ra⟩ := S.lst e1 e2 e4
    exact .lst (.inl ⟨.inl q, Mo.out S e1' (by simp)⟩) (ra.fewer fun _ => Mo.gone)
  · rename_i dss e4
    cases e3
    obtain ⟨b, bs, rfl, q, hl, w⟩ := S.obj n fp _ e1 e4
    have eb : b = a := by simpa using e2
    subst eb
    refine .lst (.inl ⟨.inl q, Mo.out S e1 (by simp)⟩) ?_
    have key : ∀ (bs : List Addr) (dss : List (List PyData)), bs.length = dss.length → (∀ c ∈ bs, ¬ Mo C (ρ.set n []) c) → (∀ (i : Nat) (b : Addr) (ds : List PyData), bs[i]? = some b → dss[i]? = some ds → ∃ vs, H b = some (.lst vs) ∧ RpAll K H (Mo C ρ) vs ds) → RpAll K H (Mo C (ρ.set n [])) (bs.map V.ref) (dss.map .list) := by
      intro bs
      induction bs with
      | nil =>
        intro dss hl _ _
        cases dss with
        | nil => exact .nil
        | cons _ _ => cases hl
      | cons b bs ih =>
        intro dss hl hn hw
        cases dss with
        | nil => cases hl
        | cons ds dss =>
          obtain ⟨vs, q1, q2⟩ := hw 0 b ds rfl rfl
          exact .cons (.lst (.inl ⟨.inl q1, hn b (by simp)⟩) (q2.fewer fun _ => Mo.gone)) (ih dss (by simpa using hl) (fun c hc => hn c (List.mem_cons_of_mem _ hc)) fun i b ds h1 h2 => hw (i + 1) b ds (by simpa using h1) (by simpa using h2))
    exact key bs dss hl (fun c hc => Mo.out S e1 (List.mem_cons_of_mem _ hc)) w
  · cases e3
theorem frz_ok {k i : Nat} {env env' : En} {h' : Hs} {σ : St} (S : SimH K C ρ h H) (E : EnvOk K C ρ H env σ) (hW : C.W.length ≤ k) (e : frz? k i env h = some (env', h')) : ∃ ρ', Stp (Mo C ρ) H (Mo C ρ') H ∧ SimH K C ρ' h' H ∧ EnvOk K C ρ' H env' σ := by
  unfold frz? at e
  split at e
  · rename_i n en
    split at e
    · rename_i hk
      cases q : obD h[n]? with
      | none => rw [q] at e; cases e
      | some d =>
        rw [q] at e
        cases e
        obtain ⟨v, ev, fp, a, e1, e2, rfl⟩ := E.at_ i _ en
        refine ⟨ρ.set n [], ⟨keepE fun _ _ z _ => z, fun _ m => .inl (Mo.gone m)⟩, S.gone (Nat.le_trans hW hk), by rw [List.length_map]; exact E.len, fun j s ej => ?_⟩
        rw [List.getElem?_map] at ej
        cases qj : env[j]? with
        | none => rw [qj] at ej; cases ej
        | some sj =>
          rw [qj] at ej
          have ej' : frzS n d sj = some s := Option.some.inj ej
          cases sj with
          | none => cases ej'
          | some t =>
            obtain ⟨v, ev, rv⟩ := E.at_ j t qj
            refine ⟨v, ev, ?_⟩
            cases t with
            | val d' => cases ej'; exact Rp.fewer (fun _ => Mo.gone) rv
            | exn x => cases ej'; exact rv
            | loc m =>
              have ej2 : (if m = n then some (Sl.val d) else some (.loc m)) = some s := ej'
              obtain ⟨fp2, a2, q1, q2, rfl⟩ := rv
              split at ej2
              · rename_i hm
                cases ej2
                subst hm
                rw [e1] at q1
                cases q1
                rw [e2] at q2
                cases q2
                exact obD_rel S e1 e2 q
              · rename_i hm
                cases ej2
                exact ⟨fp2, a2, by rw [List.getElem?_set_ne (fun z => hm z.symm)]; exact q1, q2, rfl⟩
            | inn m l =>
              have ej2 : (if m = n then none else some (Sl.inn m l)) = some s := ej'
              obtain ⟨fp2, a2, q1, q2, rfl⟩ := rv
              split at ej2
              · cases ej2
              · rename_i hm
                cases ej2
                exact ⟨fp2, a2, by rw [List.getElem?_set_ne (fun z => hm z.symm)]; exact q1, q2, rfl⟩
    · cases e
  · cases e
    exact ⟨ρ, Stp.refl _ _, S, E⟩
  · cases e
end
section
variable {X : Cx} {C : Fc} {Wx : WX} {rest : List Stmt} {st : Stmt} {g : Sv}
theorem rdS_frz {K : PySem.W.Frag} {mg : Str → Option Value} {k i : Nat} {D : Ends} {σ : St} {H : Hp} (hW : C.W.length ≤ k) (p : rdS K mg C Wx (sFrz k i g) D σ H) : rdS K mg C Wx g D σ H := by
  obtain ⟨ρ, env, h, S, E, P⟩ := p
  unfold sFrz at P
  cases q : frz? k i env h with
  | none => rw [q] at P; exact P.elim
  | some eh =>
    obtain ⟨e, h'⟩ := eh
    rw [q] at P
    obtain ⟨ρ', st, S', E'⟩ := frz_ok S E hW q
    exact ⟨ρ', e, h', S', E', PoS.stp (r := g e h') st P⟩
theorem fs_frz {k i : Nat} (hW : C.W.length ≤ k) (h : FS X C Wx st g) : FS X C Wx st (sFrz k i g) := PS.imp h fun D σ H p => rdS_frz hW p
theorem SlVs.three {K : PySem.W.Frag} {ρ : Fps} {H : Hp} {s t u : Sl} {xs : List V} (r : SlVs K C ρ H xs [s, t, u]) : ∃ x y z, xs = [x, y, z] ∧ SlV K C ρ H x s ∧ SlV K C ρ H y t ∧ SlV K C ρ H z u := by
  cases r with
  | cons r1 r2 =>
    obtain ⟨y, z, rfl, ry, rz⟩ := SlVs.two r2
    exact ⟨_, y, z, rfl, r1, ry, rz⟩
theorem fs_par3 {i j l : Nat} {x y z : Str} {a b c : Expr} {f : Av} {px py pz pt pos : Pos} {kt k2 pt2} (hc : X.calm = true) (hN : X.N.Nodup) (hi : X.N[i]? = some x) (hj : X.N[j]? = some y) (hl : X.N[l]? = some z) (hij : i ≠ j) (hil : i ≠ l) (hjl : j ≠ l)
    (hx : X.env.scope.names.lookup x = some .local) (hy : X.env.scope.names.lookup y = some .local) (hz : X.env.scope.names.lookup z = some .local) (ha : FA X C Wx [a, b, c] f)
    (hw : swappedStores [.Tuple [.Name x px, .Name y py, .Name z pz] kt pt] (.Tuple [a, b, c] k2 pt2) X.env = pure (some [x, y, z]))
    (hs : swapsWithSole [.Tuple [.Name x px, .Name y py, .Name z pz] kt pt] (.Tuple [a, b, c] k2 pt2) pos.line X.env = pure false := by rfl) :
    FS X C Wx (.Assign [.Tuple [.Name x px, .Name y py, .Name z pz] kt pt] (.Tuple [a, b, c] k2 pt2) pos) (sPar3 i j l f) := PS.imp (ps_par3 hc hN hi hj hl hij hil hjl hx hy hz ha hw hs) fun D σ H p => by
  refine rdS.bind (f := f) (g := fun ss env h => match ss with
    | [s, t, u] => (.next (((env.set i (some s)).set j (some t)).set l (some u)) h : Fl)
    | _ => .bad) p fun ρ1 env h1 a b H1 S1 E1 r1 P1 => ?_
  match a, r1, P1 with
  | [s, t, u], r1, P1 =>
    obtain ⟨v, w, z, rfl, rv, rw', rz⟩ := SlVs.three r1
    exact ⟨v, w, z, rfl, P1 ρ1 _ H1 (Stp.refl _ _) S1 (((E1.set rv i).set rw' j).set rz l)⟩
  | [], _, P1 => exact P1.elim
  | [_], _, P1 => exact P1.elim
  | [_, _], _, P1 => exact P1.elim
  | _ :: _ :: _ :: _ :: _, _, P1 => exact P1.elim
def eListN (f : Av) : Ev := fun env h => (f env h).bind fun ss h => match ss with
  | [s] => match items s h with
    | some ds => .ok (.loc h.length) (h ++ [.lst ds])
    | none => .bad
  | _ => .bad
def mPop : GM := fun s ss h => match s, ss with
  | .loc n, [] => match h[n]? with
    | some (.lst ds) => (ds[ds.length - 1]?).map fun d => (d, h.set n (.lst ds.dropLast))
    | _ => none
  | _, _ => none
theorem RpAll.dropLast {K : PySem.W.Frag} {H : Hp} {M : Ms} {vs : List V} {ds : List PyData} (r : RpAll K H M vs ds) : RpAll K H M vs.dropLast ds.dropLast := by
  rw [List.dropLast_eq_take, List.dropLast_eq_take, r.length]
  exact r.take _
theorem m_pop : MtR X "list.pop" (rdM X.K C mPop) := MtR.imp mt_pop fun x xs H Q ⟨ρ, h, s, ss, d, h', S, r1, r2, e, k⟩ => by
  unfold mPop at e
  split at e
  · rename_i n
    split at e
    · rename_i ds e3
      cases q : ds[ds.length - 1]? with
      | none => rw [q] at e; cases e
      | some d0 =>
        rw [q] at e
        cases e
        obtain ⟨fp, a, e1, e2, rfl⟩ := r1
        cases r2
        obtain ⟨e1', vs, q1, ra⟩ := S.lst e1 e2 e3
        obtain ⟨z, ez, rz⟩ := ra.get q
        have st : Stp (Mo C ρ) H (Mo C ρ) (upd H a (.lst vs.dropLast)) := ⟨keepE fun b u z nm => by
          have : b ≠ a := fun w => nm (w ▸ .inl (flat_at e1' (by simp)))
          rw [upd_ne this]; exact z, fun _ mm => .inl mm⟩
        have W := S.write (ob := .lst ds.dropLast) (o := .lst vs.dropLast) e1' ⟨a, _, rfl, upd_same, (ra.stp st).dropLast⟩
        exact ⟨a, vs, z, rfl, rfl, q1, by rw [ra.length]; exact ez, k z _ W.2 W.1 (Rp.stp st rz)⟩
    · cases e
  · cases e
def eMt0 (m : GM) (f : Ev) : Ev := fun env h => (f env h).bind fun s h => if (litems s h).isSome = true then (match m s [] h with
  | some (d, h') => .ok (.val d) h'
  | none => .bad) else .bad
theorem fe_mt0 {o : Expr} {f : Ev} {name : Str} {apos cpos : Pos} {id : String} {m : GM} (slot : PySem.Slot "list" name id) (hty : typeOf (.builtin id) = pure (.type "method_descriptor")) (hm : MtR X id (rdM X.K C m)) (ho : FE X C Wx o f)
    (hbase : attributeBase o name X.env (eval o X.env) = eval o X.env := by rfl) (hline : (apos.endLine == cpos.line) = true := by rfl) :
    FE X C Wx (.Call (.Attribute o name apos) [] [] cpos) (eMt0 m f) := PE.imp (pe_bm0 PySem.F.plainAttrs_list slot hty hm ho hbase hline) fun σ H Q p => by
  refine rd.bind (f := f) (g := fun s env h => if (litems s h).isSome = true then (match m s [] h with
    | some (d, h') => (.ok (.val d) h' : Rz Sl)
    | none => .bad) else .bad) p fun ρ1 env h1 s x H1 S1 E1 r1 P1 => ?_
  split at P1
  · rename_i hl
    obtain ⟨ds, el⟩ := Option.isSome_iff_exists.mp hl
    obtain ⟨a, vs, rfl, sq, ra⟩ := litems_rel S1 r1 el
    cases q : m s [] h1 with
    | none => rw [q] at P1; exact P1.elim
    | some dh =>
      obtain ⟨d, h'⟩ := dh
      rw [q] at P1
      exact ⟨.inl ⟨rfl, _, sq⟩, ρ1, h1, s, [], d, h', S1, r1, .nil, q, fun v H' x S r => P1 ρ1 v H' x S r⟩
  · exact P1.elim
end
end FL
namespace FL
open PySem PySem.Spec PyProof.Rows L2
section
variable {K : PySem.W.Frag} {C : Fc} {ρ : Fps} {h : Hs} {H : Hp}
theorem flat_setF {ρ : Fps} {n : Nat} {fp fq : List Addr} {a : Addr} (e : ρ[n]? = some fp) (m : a ∈ (ρ.set n fq).flatten) : a ∈ ρ.flatten ∨ a ∈ fq := by
  obtain ⟨fr, h1, h2⟩ := List.mem_flatten.mp m
  rcases List.mem_or_eq_of_mem_set h1 with z | z
  · exact .inl (List.mem_flatten.mpr ⟨fr, z, h2⟩)
  · subst z; exact .inr h2
theorem flat_setN : ∀ {ρ : Fps} {n : Nat} {fp : List Addr} {b : Addr}, ρ.flatten.Nodup → ρ[n]? = some fp → b ∉ ρ.flatten → (ρ.set n (fp ++ [b])).flatten.Nodup
  | [], _, _, _, _, e, _ => by simp at e
  | f :: ρ, 0, fp, b, nd, e, hb => by
    have e' : f = fp := by simpa using e
    subst e'
    rw [List.flatten_cons] at nd hb
    rw [List.set_cons_zero, List.flatten_cons]
    rw [List.nodup_append] at nd ⊢
    refine ⟨List.nodup_append.mpr ⟨nd.1, by simp, fun x hx y hy z => ?_⟩, nd.2.1, fun x hx y hy z => ?_⟩
    · have : y = b := by simpa using hy
      subst this; subst z
      exact hb (List.mem_append_left _ hx)
    · rcases List.mem_append.mp hx with w | w
      · exact nd.2.2 x w y hy z
      · have : x = b := by simpa using w
        subst this; subst z
        exact hb (List.mem_append_right _ hy)
  | f :: ρ, n + 1, fp, b, nd, e, hb => by
    rw [List.flatten_cons] at nd hb
    rw [List.set_cons_succ, List.flatten_cons]
    rw [List.nodup_append] at nd ⊢
    have e' : ρ[n]? = some fp := by simpa using e
    refine ⟨nd.1, flat_setN nd.2.1 e' (fun z => hb (List.mem_append_right _ z)), fun x hx y hy z => ?_⟩
    rcases flat_setF e' hy with w | w
    · exact nd.2.2 x hx y w z
    · rcases List.mem_append.mp w with w | w
      · exact nd.2.2 x hx y (flat_at e' w) z
      · have : y = b := by simpa using w
        subst this; subst z
        exact hb (List.mem_append_left _ hx)
/-- one more empty list in a list of lists -/
theorem SimH.grow (S : SimH K C ρ h H) {n : Nat} {D b : Addr} {bs : List Addr} {dss : List (List PyData)} (hn : C.W.length ≤ n) (e1 : ρ[n]? = some (D :: bs)) (e2 : h[n]? = some (.lls dss)) (eb : H b = none) :
    SimH K C (ρ.set n (D :: (bs ++ [b]))) (h.set n (.lls (dss ++ [[]]))) (upd (upd H b (.lst [])) D (.lst ((bs ++ [b]).map V.ref))) ∧ Ex C ρ H (ρ.set n (D :: (bs ++ [b]))) (upd (upd H b (.lst [])) D (.lst ((bs ++ [b]).map V.ref))) := by
  obtain ⟨D', bs', efp, hD, hl, w⟩ := S.obj n _ _ e1 e2
  cases efp
  have mD : D ∈ ρ.flatten := flat_at e1 (by simp)
  have nb : b ∉ ρ.flatten := fun z => by
    obtain ⟨o, q⟩ := S.trk b z
    rw [eb] at q; cases q
  have nDb : D ≠ b := fun z => nb (z ▸ mD)
  have nbar : ¬ C.Bar b := fun z => by
    obtain ⟨_, o, q⟩ := S.bar b z
    rw [eb] at q; cases q
  have other : ∀ c, c ≠ D → c ≠ b → upd (upd H b (.lst [])) D (.lst ((bs ++ [b]).map V.ref)) c = H c := fun c h1 h2 => by rw [upd_ne h1, upd_ne h2]
  have atb : upd (upd H b (.lst [])) D (.lst ((bs ++ [b]).map V.ref)) b = some (.lst []) := by rw [upd_ne (Ne.symm nDb), upd_same]
  have atD : upd (upd H b (.lst [])) D (.lst ((bs ++ [b]).map V.ref)) D = some (.lst ((bs ++ [b]).map V.ref)) := upd_same
  have some_ : ∀ a, (a = D ∨ a = b ∨ ∃ o, H a = some o) → ∃ o, upd (upd H b (.lst [])) D (.lst ((bs ++ [b]).map V.ref)) a = some o := fun a q => by
    by_cases q1 : a = D
    · subst q1; exact ⟨_, atD⟩
    · by_cases q2 : a = b
      · subst q2; exact ⟨_, atb⟩
      · rcases q with q | q | ⟨o, q⟩
        · exact absurd q q1
        · exact absurd q q2
        · exact ⟨o, by rw [other a q1 q2]; exact q⟩
  have Mnew : ∀ c, Mo C (ρ.set n (D :: (bs ++ [b]))) c → Mo C ρ c ∨ c = b := fun c m => by
    rcases m with m | m
    · rcases flat_setF e1 m with z | z
      · exact .inl (.inl z)
      · rcases List.mem_cons.mp z with z | z
        · exact .inl (.inl (z ▸ mD))
        · rcases List.mem_append.mp z with z | z
          · exact .inl (.inl (flat_at e1 (List.mem_cons_of_mem _ z)))
          · exact .inr (by simpa using z)
    · exact .inl (.inr m)
  have st : Stp (Mo C ρ) H (Mo C (ρ.set n (D :: (bs ++ [b])))) (upd (upd H b (.lst [])) D (.lst ((bs ++ [b]).map V.ref))) := ⟨keepE fun c o e nm => by
    rw [other c (fun z => nm (z ▸ .inl mD)) (ne_of_none e eb)]; exact e, fun c m => by
    rcases Mnew c m with z | z
    · exact .inl z
    · exact .inr (z ▸ eb)⟩
  have nln : n < ρ.length := (List.getElem?_eq_some_iff.mp e1).1
  have tk : TabKp H (upd (upd H b (.lst [])) D (.lst ((bs ++ [b]).map V.ref))) := by
    refine ⟨fun c ps q => ?_, fun c f q => ?_⟩
    · rw [other c (fun z => by rw [z, hD] at q; cases q) (ne_of_none q eb)]; exact q
    · rw [other c (fun z => by rw [z, hD] at q; cases q) (ne_of_none q eb)]; exact q
  refine ⟨⟨by rw [List.length_set, List.length_set]; exact S.len, ?_, fun a m => ?_, fun k fp o q1 q2 => ?_, fun c o q nw => ?_, fun a m => ?_, fun c m => ?_, fun a m => ?_, fun k fp q => ?_, tk.tabs S.tab, fun c xs m z => S.bnt c xs m (by
    obtain ⟨n1, o, e⟩ := S.bar c m
    have h1 : c ≠ D := fun w => n1 (w ▸ mD)
    rw [upd_ne h1, upd_ne (ne_of_none e eb)] at z
    exact z)⟩, st, fun k fp q => ?_⟩
  · exact flat_setN S.nd e1 nb
  · refine some_ a ?_
    rcases flat_setF e1 m with z | z
    · exact .inr (.inr (S.trk a z))
    · rcases List.mem_cons.mp z with z | z
      · exact .inl z
      · rcases List.mem_append.mp z with z | z
        · exact .inr (.inr (S.trk a (flat_at e1 (List.mem_cons_of_mem _ z))))
        · exact .inr (.inl (by simpa using z))
  · by_cases hk : n = k
    · subst hk
      rw [List.getElem?_set, if_pos rfl] at q1 q2
      rw [if_pos nln] at q1
      cases q1
      split at q2
      · cases q2
        refine ⟨D, bs ++ [b], rfl, atD, by simp [hl], fun i c ds h1 h2 => ?_⟩
        by_cases hi : i < bs.length
        · rw [List.getElem?_append_left hi] at h1
          rw [List.getElem?_append_left (by omega)] at h2
          obtain ⟨vs, h3, r⟩ := w i c ds h1 h2
          have mc : c ∈ ρ.flatten := flat_at e1 (List.mem_cons_of_mem _ (List.mem_of_getElem? h1))
          have ncD : c ≠ D := fun z => by
            have nd1 : (D :: bs).Nodup := by
              have := S.nd
              have sub : List.Sublist (D :: bs) ρ.flatten := List.sublist_flatten_of_mem (List.mem_of_getElem? e1)
              exact this.sublist sub
            exact (List.nodup_cons.mp nd1).1 (z ▸ List.mem_of_getElem? h1)
          exact ⟨vs, by rw [other c ncD (fun z => nb (z ▸ mc))]; exact h3, r.stp st⟩
        · have hi2 : i = bs.length := by
            have := (List.getElem?_eq_some_iff.mp h1).1
            simp at this
            omega
          subst hi2
          rw [List.getElem?_append_right (Nat.le_refl _)] at h1
          rw [hl, List.getElem?_append_right (Nat.le_refl _)] at h2
          simp at h1 h2
          subst h1; subst h2
          exact ⟨[], atb, .nil⟩
      · cases q2
    · rw [List.getElem?_set_ne hk] at q1 q2
      refine ObOk.stp st (fun c m => ?_) (S.obj k fp o q1 q2)
      have mc := flat_at q1 m
      exact other c (fun z => hk (nodup_apart S.nd e1 q1 (z ▸ by simp) (z ▸ m))) (fun z => nb (z ▸ mc))
  · obtain ⟨o', e', kk⟩ := S.frK c o q nw
    have : c ≠ D := fun z => by
      subst z
      rcases S.own c mD with w' | w'
      · exact nw w'
      · rw [q] at w'; cases w'
    exact ⟨o', by rw [other c this (ne_of_none e' eb)]; exact e', kk⟩
  · rcases flat_setF e1 m with z | z
    · exact S.own a z
    · rcases List.mem_cons.mp z with z | z
      · exact S.own a (z ▸ mD)
      · rcases List.mem_append.mp z with z | z
        · exact S.own a (flat_at e1 (List.mem_cons_of_mem _ z))
        · have : a = b := by simpa using z
          subst this
          by_cases hw : a ∈ C.W.flatten
          · exact .inl hw
          · refine .inr ?_
            cases q : C.H0 a with
            | none => rfl
            | some u =>
              obtain ⟨u', q', _⟩ := S.frK a u q hw
              rw [q'] at eb; cases eb
  · obtain ⟨n1, o, e⟩ := S.bar c m
    refine ⟨fun z => ?_, ?_⟩
    · rcases Mnew c (.inl z) with y | y
      · rcases y with y | y
        · exact n1 y
        · rcases flat_setF e1 z with x | x
          · exact n1 x
          · rcases List.mem_cons.mp x with x | x
            · exact n1 (x ▸ mD)
            · rcases List.mem_append.mp x with x | x
              · exact n1 (flat_at e1 (List.mem_cons_of_mem _ x))
              · exact nbar ((show c = b by simpa using x) ▸ m)
      · exact nbar (y ▸ m)
    · exact ⟨o, by rw [other c (fun z => n1 (z ▸ mD)) (ne_of_none e eb)]; exact e⟩
  · exact some_ a (.inr (.inr (S.wtr a m)))
  · have e' := S.pre k fp q
    have := (List.getElem?_eq_some_iff.mp q).1
    rw [List.getElem?_set_ne (by omega)]
    exact e'
  · by_cases hk : n = k
    · subst hk
      rw [e1] at q
      cases q
      exact ⟨D :: (bs ++ [b]), by rw [List.getElem?_set, if_pos rfl, if_pos nln], ⟨[b], rfl⟩⟩
    · exact ⟨fp, by rw [List.getElem?_set_ne hk]; exact q, pfx_rfl⟩
/-- an inner list is changed -/
theorem SimH.writeI (S : SimH K C ρ h H) {n i : Nat} {fp : List Addr} {a : Addr} {dss : List (List PyData)} {vs : List V} {ds : List PyData} (e1 : ρ[n]? = some fp) (e2 : fp[i + 1]? = some a) (e3 : h[n]? = some (.lls dss)) (hi : i < dss.length)
    (r : RpAll K (upd H a (.lst vs)) (Mo C ρ) vs ds) : SimH K C ρ (h.set n (.lls (dss.set i ds))) (upd H a (.lst vs)) ∧ Ex C ρ H ρ (upd H a (.lst vs)) := by
  obtain ⟨D, bs, rfl, hD, hl, w⟩ := S.obj n fp _ e1 e3
  have e2' : bs[i]? = some a := by simpa using e2
  have mem : a ∈ D :: bs := List.mem_cons_of_mem _ (List.mem_of_getElem? e2')
  have ma : a ∈ ρ.flatten := flat_at e1 mem
  have nd1 : (D :: bs).Nodup := S.nd.sublist (List.sublist_flatten_of_mem (List.mem_of_getElem? e1))
  have naD : a ≠ D := fun z => (List.nodup_cons.mp nd1).1 (z ▸ List.mem_of_getElem? e2')
  have st : Stp (Mo C ρ) H (Mo C ρ) (upd H a (.lst vs)) := ⟨keepE fun b u q nm => by
    have : b ≠ a := fun z => nm (z ▸ .inl ma)
    rw [upd_ne this]; exact q, fun _ m => .inl m⟩
  obtain ⟨vs0, ha0, _⟩ := w i a dss[i] e2' (List.getElem?_eq_getElem hi)
  have tk : TabKp H (upd H a (.lst vs)) := TabKp.put ha0 nte_lst
  refine ⟨⟨by rw [List.length_set]; exact S.len, S.nd, fun b m => ?_, fun k fq q f1 f2 => ?_, fun b u q nw => ?_, S.own, fun b m => ?_, fun b m => ?_, S.pre, tk.tabs S.tab, fun b xs m z => S.bnt b xs m (by
    have hb : b ≠ a := fun w => (S.bar b m).1 (w ▸ ma)
    rw [upd_ne hb] at z
    exact z)⟩, ⟨st, fun _ fp q => ⟨fp, q, pfx_rfl⟩⟩⟩
  · by_cases hb : b = a
    · subst hb; exact ⟨_, upd_same⟩
    · obtain ⟨u, q⟩ := S.trk b m
      exact ⟨u, by rw [upd_ne hb]; exact q⟩
  · by_cases hk : n = k
    · subst hk
      rw [e1] at f1; cases f1
      rw [List.getElem?_set, if_pos rfl] at f2
      split at f2
      · cases f2
        refine ⟨D, bs, rfl, by rw [upd_ne (Ne.symm naD)]; exact hD, by rw [List.length_set]; exact hl, fun j c es g1 g2 => ?_⟩
        by_cases hj : i = j
        · subst hj
          rw [e2'] at g1
          cases g1
          rw [List.getElem?_set, if_pos rfl, if_pos hi] at g2
          cases g2
          exact ⟨vs, upd_same, r⟩
        · rw [List.getElem?_set_ne hj] at g2
          obtain ⟨ws, g3, g4⟩ := w j c es g1 g2
          have : c ≠ a := fun z => by
            subst z
            have hbs := (List.nodup_cons.mp nd1).2
            have h1 := (List.getElem?_eq_some_iff.mp e2')
            have h2 := (List.getElem?_eq_some_iff.mp g1)
            obtain ⟨l1, q1⟩ := h1
            obtain ⟨l2, q2⟩ := h2
            exact hj ((List.getElem_inj hbs).mp (q1.trans q2.symm))
          exact ⟨ws, by rw [upd_ne this]; exact g3, g4.stp st⟩
      · cases f2
    · rw [List.getElem?_set_ne hk] at f2
      refine ObOk.stp st (fun b m => upd_ne fun z => ?_) (S.obj k fq q f1 f2)
      subst z
      exact hk (nodup_apart S.nd e1 f1 mem m)
  · obtain ⟨u', q', kk⟩ := S.frK b u q nw
    have : b ≠ a := fun z => by
      subst z
      rcases S.own b ma with w' | w'
      · exact nw w'
      · rw [q] at w'; cases w'
    exact ⟨u', by rw [upd_ne this]; exact q', kk⟩
  · obtain ⟨n, u, q⟩ := S.bar b m
    have : b ≠ a := fun z => n (z ▸ ma)
    exact ⟨n, u, by rw [upd_ne this]; exact q⟩
  · by_cases hb : b = a
    · subst hb; exact ⟨_, upd_same⟩
    · obtain ⟨u, q⟩ := S.wtr b m
      exact ⟨u, by rw [upd_ne hb]; exact q⟩
end
def innAt (s t : Sl) (h : Hs) : Option Sl := match s, t with
  | .loc n, .val (.int i) => match h[n]? with
    | some (.lls dss) => (ixN dss.length i).map fun j => .inn n j
    | _ => none
  | _, _ => none
def eIxI (f g : Ev) : Ev := fun env h => (f env h).bind fun s h => (g env h).bind fun t h => match innAt s t h with
  | some u => .ok u h
  | none => .bad
section
variable {X : Cx} {C : Fc} {Wx : WX} {a b : Expr} {f1 f2 : Ev} {pos : Pos}
theorem fe_ixI (ha : FE X C Wx a f1) (hb : FE X C Wx b f2) (hs : PlainIx b) : FE X C Wx (.Subscript a b pos) (eIxI f1 f2) := PE.imp (pe_ix ix_seq ha hb hs) fun σ H Q p => by
  refine rd.bind (f := f1) (g := fun s env h => (f2 env h).bind fun t h => match innAt s t h with
    | some u => (.ok u h : Rz Sl)
    | none => .bad) p fun ρ1 env h1 s x H1 S1 E1 r1 P1 => ?_
  refine rd.of (env := env) (h := h1) S1 E1 (Po.bind (r := f2 env h1) P1 fun ρ2 h2 t y H2 ef x2 S2 r2 P2 => ?_)
  clear ef
  cases q : innAt s t h2 with
  | none => rw [q] at P2; exact P2.elim
  | some u =>
    rw [q] at P2
    unfold innAt at q
    split at q
    · rename_i n i
      split at q
      · rename_i dss e3
        cases z : ixN dss.length i with
        | none => rw [z] at q; cases q
        | some j =>
          rw [z] at q
          cases q
          obtain ⟨fp, c, e1, e2, rfl⟩ := SlV.ex x2 r1
          cases (show Rp X.K H2 (Mo C ρ2) y (.int i) from r2)
          obtain ⟨D, bs, rfl, hD, hl, w⟩ := S2.obj n fp _ e1 e3
          have ec : D = c := by simpa using e2
          subst ec
          have hj : j < bs.length := by
            unfold ixN at z
            split at z
            · split at z
              · cases z; omega
              · cases z
            · split at z
              · cases z; omega
              · cases z
          have ez : atI (bs.map V.ref) i = some (.ref bs[j]) := by
            unfold atI
            rw [List.length_map, hl, z]
            show (bs.map V.ref)[j]? = _
            rw [List.getElem?_map, List.getElem?_eq_getElem hj]
            rfl
          exact .inl ⟨D, bs.map V.ref, i, .ref bs[j], rfl, rfl, SqL.of hD, ez, P2 ρ2 _ H2 (Ex.refl _ _ _) S2 ⟨_, bs[j], e1, by simp [hj], rfl⟩⟩
      · cases q
    · cases q
/-- x[i].append(e) -/
def mAppI : GM := fun s ss h => match s, ss with
  | .inn n i, [.val d] => match h[n]? with
    | some (.lls dss) => match dss[i]? with
      | some ds => if ds.length < 16777216 then some (.none, h.set n (.lls (dss.set i (ds ++ [d])))) else none
      | none => none
    | _ => none
  | _, _ => none
theorem m_appI : MtR X "list.append" (rdM X.K C mAppI) := MtR.imp mt_append fun x xs H Q ⟨ρ, h, s, ss, d, h', S, r1, r2, e, k⟩ => by
  unfold mAppI at e
  split at e
  · rename_i n i d0
    split at e
    · rename_i dss e3
      split at e
      · rename_i ds e4
        split at e
        · rename_i hl
          cases e
          obtain ⟨fp, a, e1, e2, rfl⟩ := r1
          obtain ⟨y, rfl, ry⟩ := SlVs.one r2
          obtain ⟨vs, q, ra⟩ := S.inn e1 e2 (show inn? h n i = some ds by unfold inn?; rw [e3]; exact e4)
          have ma : a ∈ ρ.flatten := flat_at e1 (List.mem_of_getElem? e2)
          have st : Stp (Mo C ρ) H (Mo C ρ) (upd H a (.lst (vs ++ [y]))) := ⟨keepE fun b u z nm => by
            have : b ≠ a := fun w => nm (w ▸ .inl ma)
            rw [upd_ne this]; exact z, fun _ mm => .inl mm⟩
          have W := S.writeI (vs := vs ++ [y]) (ds := ds ++ [d0]) e1 e2 e3 (List.getElem?_eq_some_iff.mp e4).1 ((ra.stp st).append (.cons (Rp.stp st ry) .nil))
          exact ⟨a, vs, y, rfl, rfl, q, by rw [ra.length, sizeLine_eq]; exact hl, k .non _ W.2 W.1 .non⟩
        · cases e
      · cases e
    · cases e
  · cases e
def eCompE (src : En → Hs → Rz (List PyData)) : Ev := fun env h => (src env h).bind fun ds h => if ds.length ≤ 16777216 then .ok (.loc h.length) (h ++ [.lls (List.replicate ds.length [])]) else .bad
theorem compE_read {K : PySem.W.Frag} {mg : Str → Option Value} {src : En → Hs → Rz (List PyData)} {i : Nat} {vs : List Nat} {σ : St} {H : Hp} {Q : VK} (hi : i ∈ vs) (p : rd K mg C Wx (relE K C) (eCompE src) σ H Q) : tLc (rd K mg C Wx (relI K C) src) (gName i) (fun _ H Q => Q true H) (tLst tNil) vs σ H Q := by
  refine rd.bind (f := src) (g := fun ds env h => if ds.length ≤ 16777216 then (.ok (.loc h.length) (h ++ [.lls (List.replicate ds.length [])]) : Rz Sl) else .bad) p fun ρ1 env1 h1 ds J H1 S1 E1 G P1 => ?_
  intro D hD
  split at P1
  · rename_i hl
    have S0 : SimH K C (ρ1 ++ [[D]]) (h1 ++ [.lls []]) (upd H1 D (.lst [])) := S1.push hD ⟨D, [], rfl, upd_same, rfl, fun i b ds e _ => by simp at e⟩
    refine ⟨fun j m H2 => m = ds.length - j ∧ j ≤ ds.length ∧ ∃ bs : List Addr, bs.length = j ∧ SimH K C (ρ1 ++ [D :: bs]) (h1 ++ [.lls (List.replicate j [])]) H2 ∧ Ex C ρ1 H1 (ρ1 ++ [D :: bs]) H2,
      ⟨ds.length, by omega, Nat.zero_le _, [], rfl, S0, Ex.push hD⟩, fun j m H2 hW => ?_⟩
    obtain ⟨hm, hj, bs, hb, S2, x2⟩ := hW
    have st2 := x2.stp
    by_cases q : j < ds.length
    · have ed : ds[j]? = some ds[j] := List.getElem?_eq_getElem q
      refine .inr ⟨G.go _ H2 j ds[j] st2 ed, fun H' => j + 1 ≤ ds.length ∧ ∃ bs : List Addr, bs.length = j + 1 ∧ SimH K C (ρ1 ++ [D :: bs]) (h1 ++ [.lls (List.replicate (j + 1) [])]) H' ∧ Ex C ρ1 H1 (ρ1 ++ [D :: bs]) H', fun H' hN => ⟨ds.length - (j + 1), by omega, rfl, hN.1, hN.2⟩, fun x H' y => ?_⟩
      obtain ⟨S3, x3, r3⟩ := G.step st2 S2 ed y
      refine ⟨(wipe_set hi).trans (wipe_wipe σ vs), ?_⟩
      show (if true = true then _ else _)
      rw [if_pos rfl]
      refine ⟨by show 0 ≤ sizeLine; exact Nat.zero_le _, fun b eb => ?_⟩
      have at1 : (ρ1 ++ [D :: bs])[ρ1.length]? = some (D :: bs) := by simp
      have at2 : (h1 ++ [Ob.lls (List.replicate j [])])[ρ1.length]? = some (.lls (List.replicate j [])) := by rw [S1.len]; simp
      obtain ⟨D', bs', efp, hD', hl', w'⟩ := S3.obj _ _ _ at1 at2
      cases efp
      have hnb : D ≠ b := ne_of_none hD' eb
      have hW : C.W.length ≤ ρ1.length := by rw [S1.len]; exact S1.wlen
      obtain ⟨S4, x4⟩ := S3.grow hW at1 at2 eb
      have e1 : (ρ1 ++ [D :: bs]).set ρ1.length (D :: (bs ++ [b])) = ρ1 ++ [D :: (bs ++ [b])] := by simp
      have e2 : (h1 ++ [Ob.lls (List.replicate j [])]).set ρ1.length (.lls (List.replicate j [] ++ [[]])) = h1 ++ [.lls (List.replicate (j + 1) [])] := by rw [S1.len, ← List.replicate_succ']; simp
      rw [e1] at S4 x4
      rw [e2] at S4
      refine ⟨bs.map V.ref, by rw [upd_ne hnb]; exact hD', by rw [List.length_map, sizeLine_eq]; omega, by omega, bs ++ [b], by simp [hb], ?_, ?_⟩
      · have e3 : (bs.map V.ref) ++ [V.ref b] = (bs ++ [b]).map V.ref := by simp
        rw [e3]
        exact S4
      · have e3 : (bs.map V.ref) ++ [V.ref b] = (bs ++ [b]).map V.ref := by simp
        rw [e3]
        exact (x2.trans x3).trans x4
    · have ej : j = ds.length := by omega
      subst ej
      refine .inl ⟨G.stop _ H2 ds.length st2 (Nat.le_refl _), P1 _ (.ref D) H2 x2 S2 ⟨D :: bs, D, by rw [← S1.len]; simp, rfl, rfl⟩⟩
  · exact P1.elim
theorem fs_setLcE {tg iter : Expr} {scope : Scope} {own : List (Str × Nat)} {src : En → Hs → Rz (List PyData)} {i j : Nat} {y : Str} {py spos p2 pos : Pos} (hc : X.calm = true) (hN : X.N.Nodup) (hy : X.N[j]? = some y) (hyl : X.env.scope.names.lookup y = some .local)
    (hsw : swapsWith (.ListComp (.List [] p2) [⟨tg, iter, [], 0⟩] scope pos) (some (.Name y py)) spos.line X.env = pure true) (hi : FI X C Wx tg iter src) (ok : BlkOk X.N X.env.scope scope own)
    (hg : ∀ (s : Shared) (H : Hp) (Cc : Addr) (cl : List (Str × Addr)) (fp : List Addr), FG (X.blk s H scope (compEnvC scope cl Cc X.env) fp) tg (.nm i))
    (hsl : i ∈ own.map (·.2) := by decide) (hs : ∀ x, foldedSetIterable iter X.env x = pure x := by intro _; rfl) :
    FS X C Wx (.Assign [.Name y py] (.ListComp (.List [] p2) [⟨tg, iter, [], 0⟩] scope pos) spos) (sSet j (eCompE src)) :=
  PS.imp (ps_setLc hc hN hy hyl hsw hi ok hg (fun s H Cc cl fp => pts_nil) (fun s H Cc cl fp => pe_lst pa_nil) hs) fun D σ H p =>
    compE_read hsl (rdS.bind (r1 := relE X.K C) (R := fun x H1 => gName j x σ H1 D.nx) (f := eCompE src) (g := fun s env h => .next (env.set j (some s)) h) p fun ρ1 env h1 a b H1 S1 E1 r1 P1 => P1 ρ1 _ H1 (Stp.refl _ _) S1 (E1.set r1 j))
end
/-- a comprehension within one -/
def relabS (sc o : Scope) : Scope := { sc with names := sc.names.map fun (n, k) => if (k == .free && o.kind == .function && o.names.lookup n == some .cell) then (n, .cell) else (n, k) }
theorem blkOk_nest {X : Cx} {N : List Str} {o : Scope} {s : Shared} {H : Hp} {sc : Scope} {cl : List (Str × Addr)} {Cc : Addr} {fp : List Addr} {scope : Scope} {own : List (Str × Nat)} (hN : X.N = N) (ho : X.env.scope = o) (h : blkC N (relabS sc o) scope own = true) :
    BlkOk (X.blk s H sc (compEnvC sc cl Cc X.env) fp).N (X.blk s H sc (compEnvC sc cl Cc X.env) fp).env.scope scope own := by
  subst hN ho
  exact (show BlkOk X.N (relabS sc X.env.scope) scope own from blkOk_by h)
end FL
namespace FL
open PySem PySem.Spec PyProof.Rows L2
inductive Out (r : Fl) (N : En → Hs → Prop) (R : Sl → Hs → Prop) : Prop
  | nx (e : En) (h : Hs) (q : r = .next e h) (p : N e h) : Out r N R
  | rt (s : Sl) (h : Hs) (q : r = .ret s h) (p : R s h) : Out r N R
theorem Out.next {e : En} {h : Hs} {N : En → Hs → Prop} {R : Sl → Hs → Prop} {r : Fl} (q : r = .next e h) (p : N e h) : Out r N R := .nx e h q p
theorem Out.ret {s : Sl} {h : Hs} {N : En → Hs → Prop} {R : Sl → Hs → Prop} {r : Fl} (q : r = .ret s h) (p : R s h) : Out r N R := .rt s h q p
theorem Out.of_nx {r : Fl} {P : En → Hs → Prop} {R : Sl → Hs → Prop} (x : Nx r P) : Out r P R := by
  obtain ⟨e, h, q, p⟩ := x
  exact .nx e h q p
theorem Out.mono {r : Fl} {N N' : En → Hs → Prop} {R R' : Sl → Hs → Prop} (x : Out r N R) (i : ∀ e h, N e h → N' e h) (j : ∀ s h, R s h → R' s h) : Out r N' R' := by
  cases x with
  | nx e h q p => exact .nx e h q (i e h p)
  | rt s h q p => exact .rt s h q (j s h p)
theorem Out.seq {p q : Sv} {env : En} {h : Hs} {A B : En → Hs → Prop} {R : Sl → Hs → Prop} (x : Out (p env h) A R) (y : ∀ e h, A e h → Out (q e h) B R) : Out (sSeq p q env h) B R := by
  rw [v_seq]
  cases x with
  | nx e h1 z a => rw [z, v_seqN]; exact y e h1 a
  | rt s h1 z a => rw [z]; exact .rt s h1 rfl a
theorem Out.loopR {tg : Tg} {p : Sv} {n : Nat} {I : List PyData → En → Hs → Prop} {R : Sl → Hs → Prop} : ∀ {ds : List PyData}, (∀ d rest env h, I (d :: rest) env h → ∃ e1, tg.put d env = some e1 ∧ Out (p e1 h) (fun e h => I rest (cutE n e) (h.take n)) R) → ∀ {env : En} {h : Hs}, I ds env h → Out (loopF tg p n ds env h) (I []) R
  | [], _, env, h, i => .nx env h rfl i
  | d :: ds, st, env, h, i => by
    obtain ⟨e1, q1, x⟩ := st d ds env h i
    unfold loopF
    rw [q1]
    dsimp only
    cases x with
    | nx e h1 z a => rw [z]; exact Out.loopR st a
    | rt s h1 z a => rw [z]; exact .rt s h1 rfl a
theorem Out.forR {src : En → Hs → Rz (List PyData)} {tg : Tg} {p : Sv} {ds : List PyData} {env : En} {h h1 : Hs} {I : List PyData → En → Hs → Prop} {R : Sl → Hs → Prop} (q : src env h = .ok ds h1) (i : I ds env h1)
    (st : ∀ d rest env h, I (d :: rest) env h → ∃ e1, tg.put d env = some e1 ∧ Out (p e1 h) (fun e h => I rest (cutE h1.length e) (h.take h1.length)) R) : Out (sFor src tg p env h) (I []) R := by
  rw [v_for, q, v_fl]
  exact Out.loopR st i
theorem Out.loopW {c : Tv} {p : Sv} {n : Nat} {I : Nat → En → Hs → Prop} {F : En → Hs → Prop} {R : Sl → Hs → Prop} (st : ∀ m env h, I m env h → (c env h = .ok false h ∧ F env h) ∨ (c env h = .ok true h ∧ ∃ m', m' < m ∧ Out (p env h) (fun e h => I m' (cutE n e) (h.take n)) R)) :
    ∀ (k m : Nat) (env : En) (h : Hs), m < k → I m env h → Out (loopW c p n k env h) F R
  | 0, m, _, _, hk, _ => absurd hk (Nat.not_lt_zero _)
  | k + 1, m, env, h, hk, i => by
    unfold FL.loopW
    rcases st m env h i with ⟨q, f⟩ | ⟨q, m', hm, x⟩
    · rw [q, v_fl, if_neg Bool.false_ne_true]
      exact .nx env h rfl f
    · rw [q, v_fl, if_pos rfl]
      cases x with
      | nx e h1 z a => rw [z]; exact Out.loopW st k m' _ _ (by omega) a
      | rt s h1 z a => rw [z]; exact .rt s h1 rfl a
theorem Out.while_ {c : Tv} {p : Sv} {k : Nat} {I : Nat → En → Hs → Prop} {F : En → Hs → Prop} {R : Sl → Hs → Prop} {env : En} {h : Hs} (m : Nat) (hk : m < k) (i : I m env h)
    (st : ∀ m env h', I m env h' → (c env h' = .ok false h' ∧ F env h') ∨ (c env h' = .ok true h' ∧ ∃ m', m' < m ∧ Out (p env h') (fun e h' => I m' (cutE h.length e) (h'.take h.length)) R)) : Out (sWhile k c p env h) F R := Out.loopW st k m env h hk i
section
variable {env : En} {h : Hs} {s t : Sl}
def par3? (i j l : Nat) (ss : List Sl) (env : En) (h : Hs) : Fl := match ss with
  | [s, t, u] => .next (((env.set i (some s)).set j (some t)).set l (some u)) h
  | _ => .bad
@[simp] theorem v_par3a {i j l : Nat} {u : Sl} : par3? i j l [s, t, u] env h = .next (((env.set i (some s)).set j (some t)).set l (some u)) h := id rfl
@[simp] theorem v_par3 {i j l : Nat} {a : Av} : sPar3 i j l a env h = (a env h).fl env fun ss h => par3? i j l ss env h := by unfold sPar3; congr
def listN? (ss : List Sl) (h : Hs) : Rz Sl := match ss with
  | [s] => match items s h with
    | some ds => .ok (.loc h.length) (h ++ [.lst ds])
    | none => .bad
  | _ => .bad
@[simp] theorem v_listN {a : Av} : eListN a env h = (a env h).bind fun ss h => listN? ss h := by unfold eListN; congr
end
/-- a comprehension with a test -/
theorem comp_flt {α : Type} {tg : Tg} {c : Tv} {f : Ev} {env : En} {h : Hs} {E : α → En} {dd : α → PyData} {w : α → PyData} {P : α → Bool} : ∀ (xs : List α) (acc : List PyData), (∀ z ∈ xs, tg.put (dd z) env = some (E z)) → (∀ z ∈ xs, c (E z) h = .ok (P z) h) → (∀ z ∈ xs, P z = true → f (E z) h = .ok (.val (w z)) h) → acc.length + xs.length ≤ 16777216 →
    compL tg c f env (xs.map dd) acc h = .ok (acc ++ (xs.filter P).map w) h
  | [], acc, _, _, _, _ => by simp [compL]
  | z :: xs, acc, hp, hc, hf, hl => by
    have hl' : acc.length + xs.length + 1 ≤ 16777216 := hl
    rw [List.map_cons]
    unfold compL
    rw [hp z List.mem_cons_self]
    dsimp only
    rw [hc z List.mem_cons_self]
    cases q : P z with
    | true =>
      dsimp only
      rw [hf z List.mem_cons_self q]
      dsimp only
      rw [if_pos (by omega), comp_flt xs (acc ++ [w z]) (fun y m => hp y (List.mem_cons_of_mem _ m)) (fun y m => hc y (List.mem_cons_of_mem _ m)) (fun y m => hf y (List.mem_cons_of_mem _ m)) (by rw [List.length_append, List.length_singleton]; omega)]
      simp [q]
    | false =>
      dsimp only
      rw [comp_flt xs acc (fun y m => hp y (List.mem_cons_of_mem _ m)) (fun y m => hc y (List.mem_cons_of_mem _ m)) (fun y m => hf y (List.mem_cons_of_mem _ m)) (by omega)]
      simp [q]
theorem enum_zip {α : Type} (dd : α → PyData) : ∀ (xs : List α) (j : Nat), enumD j (xs.map dd) = (xs.zipIdx j).map fun p => .tuple [.int (p.2 : Nat), dd p.1]
  | [], _ => rfl
  | x :: xs, j => by rw [List.map_cons, enum_cons, enum_zip dd xs (j + 1)]; rfl
theorem run_eq {fr : Bool} {io : List Bool} {nl : Nat} {p : Sv} {ds : List PyData} {os : Hs} {z : Rz PyData} (x : Out (p (mkEnv io ds 0 ++ List.replicate nl none) os) (fun _ h => Rz.ok .none (h.take os.length) = z) (fun s h => outD fr os.length s h = z)) : runFn fr io nl p ds os = z := by
  rw [v_run]
  cases x with
  | nx e h q p => rw [q]; exact p
  | rt s h q p => rw [q]; exact p
/-- a def that may end otherwise -/
theorem run_ex {fr : Bool} {io : List Bool} {nl : Nat} {p : Sv} {ds : List PyData} {os : Hs} {P : PyData → Hs → Prop} (x : Out (p (mkEnv io ds 0 ++ List.replicate nl none) os) (fun _ h => P .none (h.take os.length)) (fun s h => ∃ d h', outD fr os.length s h = .ok d h' ∧ P d h')) : ∃ d h', runFn fr io nl p ds os = .ok d h' ∧ P d h' := by
  rw [v_run]
  cases x with
  | nx e h q p => rw [q]; exact ⟨_, _, rfl, p⟩
  | rt s h q p => rw [q]; exact p
theorem Out.seqEq {p q : Sv} {env e1 : En} {h h1 : Hs} {N : En → Hs → Prop} {R : Sl → Hs → Prop} (e : p env h = .next e1 h1) (y : Out (q e1 h1) N R) : Out (sSeq p q env h) N R := by
  rw [v_seq, e, v_seqN]
  exact y
end FL
namespace FL
open PySem PySem.Spec PyProof.Rows L2 PySem.W
def tupB : PyData → Bool
  | .tuple (_ :: _) => true
  | _ => false
theorem tupB_ok {d : PyData} (h : tupB d = true) : ∃ x r, d = .tuple (x :: r) := by
  unfold tupB at h
  split at h
  · exact ⟨_, _, rfl⟩
  · cases h
def sortB (ds : List PyData) : Bool := ds.all (fun d => ds.all fun e => alike d e) && ds.all tupB && ds.all (fun d => decide (d.depth ≤ 60)) && ds.all (fun d => !d.hasDict) && decide (ds.length ≤ 16777216)
def srtD (ds : List PyData) : List PyData := ds.mergeSort (dataLe false id)
def gSorted : GL := fun ss h => match ss with
  | [s] => match litems s h with
    | some ds => if sortB ds = true then some (.list (srtD ds)) else none
    | none => none
  | _ => none
section
variable {X : Cx} {C : Fc}
theorem each_of {pins : List (Addr × Obj)} {σ : St} {H : Hp} {s : Shared} (I : Inv X pins σ H s) {M : Ms} : ∀ {vs : List V} {ds : List PyData} {us : List Value}, RpAll X.K H M vs ds → Vals vs us → (∀ d ∈ ds, d.hasDict = false) → EachIs (fun u (p : V × PyData) => RelV p.1 u ∧ Rp X.K H M p.1 p.2 ∧ ∃ as, Reads s.heap u p.2 as) us (vs.zip ds)
  | _, _, _, .nil, r, _ => by cases r; exact .nil
  | _, _, _, .cons q t, r, nd => by
    cases r with
    | cons r0 r1 =>
      have hd := Rp.dp _ _ (nd _ List.mem_cons_self) q
      obtain ⟨as, rr⟩ := Dp.reads I _ _ _ hd r0
      exact .cons ⟨r0, q, as, rr⟩ (each_of I t r1 fun d m => nd d (List.mem_cons_of_mem _ m))
theorem each_back {H : Hp} {h : Heap} {M : Ms} : ∀ {ps : List (V × PyData)} {us : List Value}, EachIs (fun u (p : V × PyData) => RelV p.1 u ∧ Rp X.K H M p.1 p.2 ∧ ∃ as, Reads h u p.2 as) us ps → Vals (ps.map (·.1)) us ∧ RpAll X.K H M (ps.map (·.1)) (ps.map (·.2))
  | _, _, .nil => ⟨.nil, .nil⟩
  | _, _, .cons ⟨r0, q, _⟩ t => by
    obtain ⟨a, b⟩ := each_back t
    exact ⟨.cons r0 a, .cons q b⟩
theorem zip_snd {M : Ms} {H : Hp} : ∀ {vs : List V} {ds : List PyData}, RpAll X.K H M vs ds → (vs.zip ds).map (·.2) = ds ∧ (vs.zip ds).length = ds.length
  | _, _, .nil => ⟨rfl, rfl⟩
  | _, _, .cons q t => by
    obtain ⟨a, b⟩ := zip_snd t
    exact ⟨by rw [List.zip_cons_cons, List.map_cons, a], by rw [List.zip_cons_cons, List.length_cons, List.length_cons, b]⟩
theorem c_sorted (hu : X.A.units + 65 < cLine) : CallR X (.builtin "sorted") (rdC X.K C gSorted) := fun pins s σ H xs us Q I r ⟨ρ, h, ss, d, S, r1, e, k⟩ => by
  unfold gSorted at e
  split at e
  · split at e
    · rename_i ds ei
      split at e
      · rename_i c
        cases e
        obtain ⟨y, rfl, ry⟩ := SlVs.one r1
        obtain ⟨a, vs, rfl, sq, ra⟩ := litems_rel S ry ei
        obtain ⟨its, rv, hl, _⟩ := I.list sq
        rw [Vals.ref1 r]
        unfold sortB at c
        simp only [Bool.and_eq_true, List.all_eq_true, decide_eq_true_eq, Bool.not_eq_true'] at c
        obtain ⟨⟨⟨⟨c1, c2⟩, c3⟩, c4⟩, c5⟩ := c
        have ea := each_of I ra rv c4
        obtain ⟨z1, z2⟩ := zip_snd ra
        have hL : (vs.zip ds).length ≤ sizeLine := by rw [z2, sizeLine_eq]; exact c5
        refine sorted_data (enc := fun p : V × PyData => p.2) hl.isList ea (ea.mono fun _ _ q => q.2.2) (by rw [z1]; exact fun d hd d' hd' => c1 d hd d' hd') (by rw [z1]; exact .inl fun d hd => tupB_ok (c2 d hd)) hL (fun b hb => ?_) fun out h1 h2 => ?_
        · have hb2 : b.2 ∈ ds := by rw [← z1]; exact List.mem_map_of_mem hb
          have := c3 _ hb2
          omega
        · obtain ⟨g1, g2⟩ := each_back (X := X) h2
          obtain ⟨ep, he'⟩ := PyProof.Rows.sortedAll_at s.heap its (List.toArray out)
          have em : (((vs.zip ds).mergeSort (dataLe false fun p : V × PyData => p.2)).map (·.2)) = srtD ds := by
            have q := List.map_mergeSort (r := dataLe false fun p : V × PyData => p.2) (s := dataLe false id) (f := fun p : V × PyData => p.2) (l := vs.zip ds) (fun a _ b _ => rfl)
            rw [z1] at q
            exact q
          rw [em] at g2
          have hlen : (((vs.zip ds).mergeSort (dataLe false fun p : V × PyData => p.2)).map (·.1)).length ≤ sizeLine := by rw [List.length_map, List.length_mergeSort]; exact hL
          have hp := I.hok.fresh (Nat.le_succ s.heap.objs.size)
          exact ⟨.ref _, upd H (s.heap.objs.size + 1) (.lst (((vs.zip ds).mergeSort (dataLe false fun p : V × PyData => p.2)).map (·.1))), I.laid (t' := s.toks) (fun _ _ => PyProof.Rows.sortedAll_old) (Nat.le_succ _) ⟨hlen, out, ep, g1, he'⟩, rfl, k _ _ (Ex.laid S hp) (S.laid hp) (Rp.newLst S hp g2)⟩
      · cases e
    · cases e
  · cases e
end
end FL
namespace FL
open PySem PySem.Spec PyProof.Rows L2 PySem.W
def rowW (p : Nat × List Nat) : PyData := .tuple [.int p.1, .tuple (natsD p.2)]
def inW (ws : List Nat) : List Int := ws.map fun w : Nat => (w : Int)
theorem natsD_in (ws : List Nat) : natsD ws = (inW ws).map PyData.int := by unfold natsD inW; rw [List.map_map]; rfl
theorem inW_inj : ∀ {a b : List Nat}, inW a = inW b → a = b
  | [], [], _ => rfl
  | [], _ :: _, h => by cases h
  | _ :: _, [], h => by cases h
  | x :: a, y :: b, h => by
    have h' : (x : Int) :: inW a = (y : Int) :: inW b := h
    rw [List.cons.injEq] at h'
    rw [inW_inj h'.2, show x = y by omega]
def leW (a b : Nat × List Nat) : Bool := decide (a.1 < b.1 ∨ (a.1 = b.1 ∧ inW a.2 ≤ inW b.2))
theorem alike_nats (a b : List Nat) : alike (.tuple (natsD a)) (.tuple (natsD b)) = true := by
  rw [natsD_in, natsD_in]
  show alikeAll _ _ = true
  exact alike_ints _ _
theorem alike_row (a b : Nat × List Nat) : alike (rowW a) (rowW b) = true := by
  have := alike_nats a.2 b.2
  simp [rowW, alike, alikeAll] at this ⊢
  exact this
theorem eqv_ints : ∀ xs ys : List Int, PyData.eqvAll (xs.map .int) (ys.map .int) = decide (xs = ys)
  | [], [] => by simp [PyData.eqvAll]
  | [], _ :: _ => by simp [PyData.eqvAll]
  | _ :: _, [] => by simp [PyData.eqvAll]
  | x :: xs, y :: ys => by
    simp only [List.map_cons, PyData.eqvAll, PyData.eqv, eqv_ints xs ys]
    by_cases h1 : x = y <;> by_cases h2 : xs = ys <;> simp [h1, h2]
theorem dataLe_row (a b : Nat × List Nat) : dataLe false id (rowW a) (rowW b) = leW a b := by
  show (!dataLt (rowW b) (rowW a)) = _
  unfold rowW
  rw [dataLt_pair (by simp [alike]) (alike_nats _ _), dataLt_int]
  have e1 : PyData.eqv (.int (b.1 : Int)) (.int a.1) = decide (b.1 = a.1) := by
    simp only [PyData.eqv]
    by_cases h : b.1 = a.1 <;> simp [h]
    omega
  have e2 : PyData.eqv (.tuple (natsD b.2)) (.tuple (natsD a.2)) = decide (inW b.2 = inW a.2) := by
    rw [natsD_in, natsD_in]
    show PyData.eqvAll _ _ = _
    exact eqv_ints _ _
  have e3 : dataLt (.tuple (natsD b.2)) (.tuple (natsD a.2)) = decide (inW b.2 < inW a.2) := by
    rw [natsD_in, natsD_in, dataLt_tuple]
    exact dataLt_ints _ _
  rw [e1, e2, e3]
  unfold leW
  by_cases h1 : b.1 = a.1
  · by_cases h2 : inW b.2 = inW a.2
    · have : inW a.2 ≤ inW a.2 := List.le_refl _
      simp [h1, h2, this]
    · by_cases h3 : inW b.2 < inW a.2
      · have h4 : ¬ inW a.2 ≤ inW b.2 := fun r => List.not_lt.mpr r h3
        simp [h1, h2, h3, h4]
      · have h4 : inW a.2 ≤ inW b.2 := List.not_lt.mp h3
        simp [h1, h2, h3, h4]
  · by_cases h3 : a.1 < b.1
    · have h4 : ¬ b.1 < a.1 := by omega
      simp [h1, h3, h4]
    · have h4 : b.1 < a.1 := by omega
      have h5 : ¬ a.1 = b.1 := by omega
      simp [h1, h3, h4, h5]
theorem srt_rows (ps : List (Nat × List Nat)) : srtD (ps.map rowW) = (ps.mergeSort leW).map rowW := by
  unfold srtD
  exact (List.map_mergeSort (r := leW) (s := dataLe false id) (f := rowW) (l := ps) (fun a _ b _ => (dataLe_row a b).symm)).symm
theorem leW_trans (a b c : Nat × List Nat) (h1 : leW a b = true) (h2 : leW b c = true) : leW a c = true := by
  unfold leW at *
  simp only [decide_eq_true_eq] at *
  rcases h1 with h1 | ⟨h1, g1⟩ <;> rcases h2 with h2 | ⟨h2, g2⟩
  · exact .inl (by omega)
  · exact .inl (by omega)
  · exact .inl (by omega)
  · exact .inr ⟨by omega, List.le_trans g1 g2⟩
theorem leW_total (a b : Nat × List Nat) : (leW a b || leW b a) = true := by
  unfold leW
  simp only [Bool.or_eq_true, decide_eq_true_eq]
  rcases Nat.lt_trichotomy a.1 b.1 with h | h | h
  · exact .inl (.inl h)
  · rcases List.le_total (inW a.2) (inW b.2) with g | g
    · exact .inl (.inr ⟨h, g⟩)
    · exact .inr (.inr ⟨h.symm, g⟩)
  · exact .inr (.inl h)
theorem leW_anti {a b : Nat × List Nat} (h1 : leW a b = true) (h2 : leW b a = true) : a = b := by
  unfold leW at *
  simp only [decide_eq_true_eq] at *
  rcases h1 with h1 | ⟨h1, g1⟩ <;> rcases h2 with h2 | ⟨h2, g2⟩
  · omega
  · omega
  · omega
  · exact Prod.ext h1 (inW_inj (List.le_antisymm g1 g2))
end FL
namespace FL
open PySem PySem.Spec PyProof.Rows L2
def compO (t : Tg) (tt : Tv) (fe : Ev) (env : En) (n : Nat) : Nat → Nat → List PyData → Hs → Rz (List PyData)
  | 0, _, _, _ => .bad
  | k + 1, i, acc, h => match obL h[n]? with
    | none => .bad
    | some ds => match ds[i]? with
      | none => .ok acc h
      | some d => match t.put d env with
        | none => .bad
        | some e1 => match tt e1 h with
          | .ok true h => match fe e1 h with
            | .ok (.val x) h => if acc.length < 16777216 then compO t tt fe env n k (i + 1) (acc ++ [x]) h else .bad
            | _ => .bad
          | .ok false h => compO t tt fe env n k (i + 1) acc h
          | _ => .bad
def compS (t : Tg) (tt : Tv) (fe : Ev) (env : En) (s : Sl) (h : Hs) : Rz (List PyData) := match s with
  | .loc n => compO t tt fe env n 16777217 0 [] h
  | _ => .bad
def eCompO (fi : Ev) (t : Tg) (vs : List Nat) (tt : Tv) (fe : Ev) : Ev := fun env h => (fi env h).bind fun s h => (compS t tt fe (wipeE env vs) s h).bind fun out h => .ok (.val (.list out)) h
section
variable {env : En} {h : Hs} {fi : Ev} {t : Tg} {vs : List Nat} {tt : Tv} {fe : Ev}
@[simp] theorem v_compOv : eCompO fi t vs tt fe env h = (fi env h).bind fun s h => (compS t tt fe (wipeE env vs) s h).bind fun out h => .ok (.val (.list out)) h := id rfl
end
theorem v_outL {k n : Nat} {ds : List PyData} {h : Hs} {fr : Bool} (hn : noLs ds = true) (e : h[n]? = some (.lst ds)) (hk : k ≤ n := by decide) : outD fr k (.loc n) h = .ok (.list ds) (h.take k) := by
  unfold outD
  simp [e, hk, hn]
end FL
namespace FL
open PySem PySem.Spec PyProof.Rows L2
def gMul : G2 := fun s t h => match s, t with
  | .val (.int i), .val (.int j) => fMul i j
  | .val (.tuple a), .val (.int k) => if a ≠ [] ∧ 2 ≤ k ∧ k ≤ 1000 ∧ a.length ≤ 1000 then some (.tuple (List.replicate k.toNat a).flatten) else none
  | _, _ => none
section
variable {X : Cx} {C : Fc}
mutual
def lfr : PyData → Bool
  | .list _ => false
  | .tuple ds => lfrs ds
  | _ => true
def lfrs : List PyData → Bool
  | [] => true
  | d :: ds => lfr d && lfrs ds
end
theorem dict_reads {ps : List (Int × Int)} : ∀ {es : List DictEntry} {vs : List (Key × Value)} {qs : List (Int × Int)} {h : Heap} {P : Program} {w : World}, Pairs (mixKind P w) es vs → KV (dcV qs) vs →
    ReadsAll h (es.map (·.key)) ((dcD qs).map (·.1)) [] ∧ ReadsAll h (es.map (·.val)) ((dcD qs).map (·.2)) []
  | [], _, qs, h, P, w, .nil, kv => by
    cases qs with
    | nil => exact ⟨.nil, .nil⟩
    | cons q qs => cases kv
  | e :: es, _, qs, h, P, w, .cons h1 h2 t, kv => by
    cases qs with
    | nil => cases kv
    | cons q qs =>
      cases kv with
      | cons hq tq =>
        obtain ⟨i1, i2⟩ := dict_reads (ps := ps) (h := h) t tq
        obtain ⟨hk, hv⟩ := hq
        have hk1 : keyIs (Sum.inl q.1) e.key = true := by rw [show (Sum.inl q.1 : Key) = _ from hk]; exact h1
        obtain ⟨t1, e1⟩ := hv
        refine ⟨?_, ?_⟩
        · rcases keyIs_shape hk1 with ⟨i, t', ei, ek⟩ | ⟨x, t', ei, ek⟩
          · cases ei
            have := ReadsAll.cons (Reads.int (h := h) q.1 t') i1
            show ReadsAll h (e.key :: es.map (·.key)) (.int q.1 :: (dcD qs).map (·.1)) []
            rw [ek]
            exact this
          · cases ei
        · have := ReadsAll.cons (Reads.int (h := h) q.2 t1) i2
          show ReadsAll h (e.val :: es.map (·.val)) (.int q.2 :: (dcD qs).map (·.2)) []
          rw [h2, e1]
          exact this
section
variable {pins : List (Addr × Obj)} {σ : St} {H : Hp} {s : Shared} {M : Ms}
mutual
theorem Rp.readsD (I : Inv X pins σ H s) : ∀ (d : PyData) (v : V) (u : Value), lfr d = true → d.showable = true → Rp X.K H M v d → RelV v u → ∃ as, Reads s.heap u d as ∧ sysModules ∉ as
  | .none, _, _, _, _, h, r => by cases h; cases r; exact ⟨_, Reads.none, by simp⟩
  | .bool b, _, _, _, _, h, r => by cases h; cases r; exact ⟨_, Reads.bool b, by simp⟩
  | .int i, _, _, _, _, h, r => by cases h; obtain ⟨t, rfl⟩ := r; exact ⟨_, Reads.int i t, by simp⟩
  | .str x, _, _, _, _, h, r => by cases h; obtain ⟨t, rfl⟩ := r; exact ⟨_, Reads.str x t, by simp⟩
  | .list ds, _, _, l, _, _, _ => by simp [lfr] at l
  | .tuple ds, _, _, l, sw, h, r => by
    cases h with
    | tup hs ha =>
      cases r
      obtain ⟨its, rv, ⟨o, ho, hc, n, hd⟩, _⟩ := I.tuple hs.sq
      obtain ⟨as, hr, ns⟩ := RpAll.readsD I ds _ its (by simpa only [lfr] using l) (by simpa only [PyData.showable] using sw) ha rv
      exact ⟨_, Reads.tuple ho hc hd hr, ns⟩
  | .dict kvs, _, _, _, sw, h, r => by
    cases h with
    | dct fz hq he =>
      cases r
      subst he
      obtain ⟨ps, rfl⟩ : ∃ ps, fz = .dic ps := by
        cases fz with
        | dic ps => exact ⟨ps, rfl⟩
        | lam x n =>
          have := fnV_hid x n
          rw [show PyData.showable (.dict (fnV x n)) = true from sw] at this
          cases this
      obtain ⟨z, hsm, vs, kv, o, es, ep, ho, hx, hd, _, hp, _⟩ := dk_of I.hok hq.1
      obtain ⟨r1, r2⟩ := dict_reads (ps := ps) (h := s.heap) hp kv
      refine ⟨_, Reads.dict ho hx.1 hd r1 r2, ?_⟩
      have : ¬ _ = sysModules := beq_eq_false_iff_ne.mp hsm
      simp
      exact fun z => this z.symm
theorem RpAll.readsD (I : Inv X pins σ H s) : ∀ (ds : List PyData) (vs : List V) (us : List Value), lfrs ds = true → PyData.showableAll ds = true → RpAll X.K H M vs ds → Vals vs us → ∃ as, ReadsAll s.heap us ds as ∧ sysModules ∉ as
  | [], _, _, _, _, h, r => by cases h; cases r; exact ⟨_, ReadsAll.nil, by simp⟩
  | d :: ds, _, _, l, sw, h, r => by
    cases h with
    | cons h1 h2 =>
      cases r with
      | cons r1 r2 =>
        have sw' : PyData.showable d = true ∧ PyData.showableAll ds = true := by simpa only [PyData.showableAll, Bool.and_eq_true] using sw
        have l' : lfr d = true ∧ lfrs ds = true := by simpa only [lfrs, Bool.and_eq_true] using l
        obtain ⟨as, q1, n1⟩ := Rp.readsD I d _ _ l'.1 sw'.1 h1 r1
        obtain ⟨bs, q2, n2⟩ := RpAll.readsD I ds _ _ l'.2 sw'.2 h2 r2
        exact ⟨_, ReadsAll.cons q1 q2, by simp [n1, n2]⟩
end
end
def rpX (d : PyData) : Bool := match d with
  | .tuple _ => true
  | .dict _ => true
  | _ => false
def gReprX : GL := fun ss h => match gRepr ss h with
  | some z => some z
  | none => match ss with
    | [.val d] => if rpX d && lfr d && decide (d.depth ≤ 60) && d.showable && decide (d.shown.length ≤ 16777216) then some (.str d.shown) else none
    | _ => none
theorem call_reprX (hg : X.A.guards = some []) (hu : X.A.units + 65 < cLine) : CallR X (.builtin "repr") fun xs H Q => ∃ v d M, xs = [v] ∧ Rp X.K H M v d ∧ rpX d = true ∧ lfr d = true ∧ d.depth ≤ 60 ∧ d.showable = true ∧ d.shown.length ≤ sizeLine ∧ Q (.str d.shown) H := by
  rintro pins s σ H xs us Q I r ⟨v, d, M, rfl, hd, rx, lf, dp, sh, hz, q⟩
  obtain ⟨u, rfl, ru⟩ := Vals.one r
  obtain ⟨as, rr, ns⟩ := Rp.readsD I d v u lf sh hd ru
  obtain ⟨a, rfl⟩ : ∃ a, u = .ref a := by
    cases d with
    | tuple _ => cases hd; cases ru; exact ⟨_, rfl⟩
    | dict _ => cases hd; cases ru; exact ⟨_, rfl⟩
    | none => cases rx
    | bool _ => cases rx
    | int _ => cases rx
    | str _ => cases rx
    | list _ => cases rx
  exact repr_of_reads' rr sh (fun _ => ns) hg (by omega) (fun _ _ e => e) (fun h' t tk hk => ⟨.str d.shown, H, I.kept (t' := tk) hk, ⟨_, rfl⟩, q⟩) hz
theorem c_reprX (hg : X.A.guards = some []) (hu : X.A.units + 65 < cLine) : CallR X (.builtin "repr") (rdC X.K C gReprX) := fun pins s σ H xs us Q I r ⟨ρ, h, ss, d, S, r1, e, k⟩ => by
  unfold gReprX at e
  split at e
  · rename_i z ez
    cases e
    exact c_repr hg hu pins s σ H xs us Q I r ⟨ρ, h, ss, _, S, r1, ez, k⟩
  · split at e
    · rename_i z hnz
      split at e
      · rename_i c
        simp only [Bool.and_eq_true, decide_eq_true_eq] at c
        obtain ⟨⟨⟨⟨c1, c2⟩, c3⟩, c4⟩, c5⟩ := c
        cases e
        obtain ⟨y, rfl, ry⟩ := SlVs.one r1
        exact call_reprX hg hu pins s σ H _ us Q I r ⟨y, z, _, rfl, ry, c1, c2, c3, c4, by rw [sizeLine_eq]; exact c5, k _ H (Ex.refl _ _ _) S (.str _)⟩
      · cases e
    · cases e
end
theorem v_reprXo {ss : List Sl} {h : Hs} {z : PyData} (e : gRepr ss h = some z) : gReprX ss h = some z := by unfold gReprX; rw [e]
theorem v_reprX {w k : Nat} {d : PyData} {s : Sl} {h : Hs} (e : dat s h = some d) (r : Rk w k d) (hk : k ≤ 64) (hw : w ≤ 16777216) : gReprX [s] h = some (.str d.shown) := v_reprXo (v_repr e r hk hw)
@[simp] theorem v_mulI {i j : Int} {h : Hs} : gMul (.val (.int i)) (.val (.int j)) h = fMul i j := id rfl
end FL
namespace FL
open PySem PySem.Spec PyProof.Rows L2
/-- what stands at a parameter: the i-th value that is handed over, or the j-th default that is left out -/
inductive Ar where
  | ix (i : Nat)
  | df (j : Nat) (d : PyData)
def arS (ss : List Sl) : Ar → Sl
  | .ix i => ss.getD i (.val .none)
  | .df _ d => .val d
abbrev Shp := Nat × List Str × List Ar
theorem Vals.getD {vs : List V} {us : List Value} (r : Vals vs us) (i : Nat) : RelV (vs.getD i .non) (us.getD i .none) := by
  induction r generalizing i with
  | nil => exact rfl
  | cons h t ih =>
    cases i with
    | zero => exact h
    | succ i => exact ih i
theorem SlVs.getD {K : PySem.W.Frag} {C : Fc} {ρ : Fps} {H : Hp} {vs : List V} {ss : List Sl} (r : SlVs K C ρ H vs ss) (i : Nat) : SlV K C ρ H (vs.getD i .non) (ss.getD i (.val .none)) := by
  induction r generalizing i with
  | nil => exact Rp.non
  | cons h t ih =>
    cases i with
    | zero => exact h
    | succ i => exact ih i
def callA (m : Fm) (io : List Bool) (fr : Bool) (sh : Shp) (ss ts : List Sl) (h : Hs) : Rz Sl := if ss.length = sh.1 ∧ ts.length = sh.2.1.length then callF m io fr (sh.2.2.map (arS (ss ++ ts))) h else .bad
def eCallA (m : Fm) (io : List Bool) (fr : Bool) (sh : Shp) (fa fk : Av) : Ev := fun env h => (fa env h).bind fun ss h => (fk env h).bind fun ts h => callA m io fr sh ss ts h
theorem Vals.app {vs zs : List V} {us ws : List Value} (r : Vals vs us) (q : Vals zs ws) : Vals (vs ++ zs) (us ++ ws) := by
  induction r with
  | nil => exact q
  | cons h t ih => exact .cons h ih
theorem SlVs.app {K : PySem.W.Frag} {C : Fc} {ρ : Fps} {H : Hp} {vs zs : List V} {ss ts : List Sl} (r : SlVs K C ρ H vs ss) (q : SlVs K C ρ H zs ts) : SlVs K C ρ H (vs ++ zs) (ss ++ ts) := by
  induction r with
  | nil => exact q
  | cons h t ih => exact .cons h ih
theorem SlVs.len {K : PySem.W.Frag} {C : Fc} {ρ : Fps} {H : Hp} {vs : List V} {ss : List Sl} (r : SlVs K C ρ H vs ss) : vs.length = ss.length := Paired.length r
theorem SlVs.exs {K : PySem.W.Frag} {C : Fc} {ρ ρ' : Fps} {H H' : Hp} (x : Ex C ρ H ρ' H') {vs : List V} {ss : List Sl} (r : SlVs K C ρ H vs ss) : SlVs K C ρ' H' vs ss := by
  induction r with
  | nil => exact .nil
  | cons h t ih => exact .cons (SlV.ex x h) ih
section
variable {m : Fm} {io : List Bool} {fr : Bool} {sh : Shp} {fa fk : Av} {env : En} {h : Hs} {ss ts : List Sl}
@[simp] theorem v_callA : eCallA m io fr sh fa fk env h = (fa env h).bind fun ss h => (fk env h).bind fun ts h => callA m io fr sh ss ts h := id rfl
end
end FL
namespace FL
open PySem PySem.Spec PyProof.Rows L2
def ddI (ns : List Int) : List Int := ns.foldl (fun acc n => if acc.any (· == n) then acc else acc ++ [n]) []
def gLenSet : Sl → Hs → Option PyData := fun s h => match (litems s h).bind ints? with
  | some ns => if ns.length ≤ 4000 then some (.int ((ddI ns).length : Nat)) else none
  | none => none
section
variable {X : Cx} {C : Fc} {Wx : WX}
def eRepG (g : List Sl → Sl → Hs → Rz Sl) (fa : Av) (fb : Ev) : Ev := fun env h => (fa env h).bind fun ss h => if ss.length ≤ 16777216 then (fb env h).bind fun t h => g ss t h else .bad
end
section
variable {env : En} {h : Hs} {fa : Av} {fb : Ev} {g : List Sl → Sl → Hs → Rz Sl} {i : Nat} {mw : Exn → Option PyData}
def repg? (g : List Sl → Sl → Hs → Rz Sl) (ss : List Sl) (r : Rz Sl) : Rz Sl := if ss.length ≤ 16777216 then r.bind fun t h => g ss t h else .bad
@[simp] theorem v_repG : eRepG g fa fb env h = (fa env h).bind fun ss h => repg? g ss (fb env h) := id rfl
@[simp] theorem v_rep1 {s t : Sl} {h1 : Hs} : repg? g [s] (.ok t h1) = g [s] t h1 := by
  show (if [s].length ≤ 16777216 then g [s] t h1 else .bad) = _
  rw [if_pos (by simp)]
end
@[simp] theorem v_lenSet {s : Sl} {h : Hs} : gLenSet s h = ((litems s h).bind ints?).bind fun ns => if ns.length ≤ 4000 then some (.int ((ddI ns).length : Nat)) else none := by
  unfold gLenSet
  cases (litems s h).bind ints? <;> rfl
end FL
namespace FL
open PySem PySem.Spec PyProof.Rows L2
def setAll : En → List Nat → List Sl → En
  | env, i :: is, s :: ss => setAll (env.set i (some s)) is ss
  | env, _, _ => env
def sParL (is : List Nat) (f : Av) : Sv := fun env h => (f env h).fl env fun ss h => if ss.length = is.length ∧ ss.length ≤ 16777216 then .next (setAll env is ss) h else .bad
section
variable {env : En} {h : Hs} {fa : Av} {is : List Nat} {ss : List Sl}
def parL? (is : List Nat) (ss : List Sl) (env : En) (h : Hs) : Fl := if ss.length = is.length ∧ ss.length ≤ 16777216 then .next (setAll env is ss) h else .bad
@[simp] theorem v_parL : sParL is fa env h = (fa env h).fl env fun ss h => parL? is ss env h := id rfl
@[simp] theorem v_setA0 : setAll env [] [] = env := id rfl
@[simp] theorem v_setA {i : Nat} {s : Sl} : setAll env (i :: is) (s :: ss) = setAll (env.set i (some s)) is ss := id rfl
end
end FL
namespace FL
open PySem PySem.Spec PyProof.Rows L2
theorem natsD_snoc {ps : List Nat} {p : Nat} : natsD (ps ++ [p]) = natsD ps ++ [.int (p : Nat)] := by unfold natsD; simp
theorem lay_nats : ∀ ws : List Nat, PyData.canLayAll0 (natsD ws) = true ∧ PyData.depthAll (natsD ws) = 0 ∧ PyData.hasDictAll (natsD ws) = false
  | [] => by simp [natsD, PyData.canLayAll0, PyData.depthAll, PyData.hasDictAll]
  | w :: ws => by
    obtain ⟨h1, h2, h3⟩ := lay_nats ws
    refine ⟨?_, ?_, ?_⟩
    · show PyData.canLayAll0 (.int (w : Nat) :: natsD ws) = true
      simp [PyData.canLayAll0, PyData.canLay0, h1]
    · show PyData.depthAll (.int (w : Nat) :: natsD ws) = 0
      simp [PyData.depthAll, PyData.depth, h2]
    · show PyData.hasDictAll (.int (w : Nat) :: natsD ws) = false
      simp [PyData.hasDictAll, PyData.hasDict, h3]
theorem v_neNilO {ds : List PyData} {h : Hs} {k : Nat} (e : h[k]? = some (.lst ds)) (hs : shp (.list ds) = true) : gNe (.loc k) (.val (.list [])) h = some (.bool (!ds.isEmpty)) := by
  have ed : dat (.loc k) h = some (.list ds) := by rw [v_datO, e]; rfl
  show (match dat (.loc k) h, dat (.val (.list [])) h with | some d, some e => if eqOk d e then some (PyData.bool (!PyData.eqv d e)) else none | _, _ => none) = _
  rw [ed]
  show (if eqOk (.list ds) (.list []) then some (PyData.bool (!PyData.eqv (.list ds) (.list []))) else none) = _
  have e : eqOk (.list ds) (.list []) = true := by
    have h0 : shp (.list []) = true := by decide +kernel
    show (shp _ && shp _) = _
    rw [hs, h0]
    rfl
  rw [e]
  cases ds <;> simp [PyData.eqv, PyData.eqvAll]
theorem v_popL {h : Hs} {k : Nat} {ds : List PyData} {d : PyData} (e : h[k]? = some (.lst (ds ++ [d]))) : mPop (.loc k) [] h = some (d, h.set k (.lst ds)) := by
  show (match h[k]? with
    | some (.lst ds) => (ds[ds.length - 1]?).map fun d => (d, h.set k (.lst ds.dropLast))
    | _ => none) = _
  rw [e]
  simp
def mt0? (m : GM) (s : Sl) (h : Hs) : Rz Sl := if (litems s h).isSome = true then (match m s [] h with
  | some (d, h') => .ok (.val d) h'
  | none => .bad) else .bad
theorem v_mt0 {m : GM} {f : Ev} {env : En} {h : Hs} : eMt0 m f env h = (f env h).bind fun s h => mt0? m s h := by unfold eMt0 mt0?; rfl
theorem mt0_of {m : GM} {s : Sl} {h h' : Hs} {d : PyData} (h1 : (litems s h).isSome = true) (e : m s [] h = some (d, h')) : mt0? m s h = .ok (.val d) h' := by unfold mt0?; rw [if_pos h1, e]
theorem rk_road {n : Nat} {r : Road} (hn : n ≤ 10) (h : r.Ok n) : Rk 7700 1 r.d := by
  have := h.one
  have := h.other
  have := h.c2
  have := h.t
  refine (Rk.tuple (w := 1921) (k := 0) fun d m => ?_).mono (by simp) (Nat.le_refl _)
  simp only [List.mem_cons, List.not_mem_nil, or_false] at m
  rcases m with rfl | rfl | rfl | rfl <;> exact Rk.small (by omega) (by omega)
theorem rk_net {n : Nat} {rs : List Road} (h : NetOk n rs) : Rk 500000 3 (netD n rs) := by
  have h2 := h.n2
  have hl := h.len
  have e : Rk 240000 2 (.tuple (rs.map Road.d)) := by
    refine (Rk.tuple (w := 7700) (k := 1) fun d m => ?_).mono (by simp; omega) (Nat.le_refl _)
    obtain ⟨r, hr, rfl⟩ := List.mem_map.mp m
    exact rk_road h2 (h.all r hr)
  refine (Rk.tuple (w := 240000) (k := 2) fun d m => ?_).mono (by simp) (Nat.le_refl _)
  simp only [List.mem_cons, List.not_mem_nil, or_false] at m
  rcases m with rfl | rfl
  · exact (Rk.small (by omega) (by omega)).mono (by decide) (by decide)
  · exact e
structure Gd (d : PyData) : Prop where
  rep : ∃ x, ∀ h, gReprX [.val d] h = some (.str x)
  len : ∀ ds, d = .tuple ds → ds.length ≤ 100000
theorem Gd.of {w k : Nat} {d : PyData} (r : Rk w k d) (hk : k ≤ 64) (hw : w ≤ 16777216) (hl : ∀ ds, d = .tuple ds → ds.length ≤ 100000) : Gd d := ⟨⟨_, fun h => v_reprX rfl r hk hw⟩, hl⟩
/-- a tuple, a list of small things -/
def atom (d : PyData) : Prop := Rk 1921 0 d
theorem Gd.tup {ds : List PyData} (h : ∀ d ∈ ds, atom d) (hl : ds.length ≤ 8000) : Gd (.tuple ds) := Gd.of (Rk.tuple h) (by decide) (by omega) fun es q => by cases q; omega
theorem Gd.lst {ds : List PyData} (h : ∀ d ∈ ds, atom d) (hl : ds.length ≤ 8000) : Gd (.list ds) := Gd.of (Rk.list h) (by decide) (by omega) fun es q => by cases q
end FL
namespace FL
open PySem PySem.Spec PyProof.Rows L2
inductive Kd (d : PyData) : Prop
  | rk (w k : Nat) (r : Rk w k d) (hw : w ≤ 1000000) (hk : k ≤ 20) : Kd d
  | d0 (e : d = .dict []) : Kd d
  | d1 (e : d = .dict [(.int 0, .int 1)]) : Kd d
theorem Kd.tup {ds : List PyData} (h : ∀ d ∈ ds, Rk 1921 1 d) (hl : ds.length ≤ 100) : Kd (.tuple ds) := .rk _ 2 (Rk.tuple h) (by omega) (by decide)
theorem Kd.lst {ds : List PyData} (h : ∀ d ∈ ds, Rk 1921 1 d) (hl : ds.length ≤ 100) : Kd (.list ds) := .rk _ 2 (Rk.list h) (by omega) (by decide)
theorem ints_nats (ws : List Nat) : ints? (natsD ws) = some (ws.map fun w : Nat => (w : Int)) := ints_map (fun w : Nat => (w : Int)) ws
end FL
namespace FL
open PySem PySem.Spec PyProof.Rows L2
def lookD (kvs : List (Key × PyData)) (k : Key) : Option PyData := (kvs.find? fun kv => decide (kv.1 = k)).map (·.2)
def putD (kvs : List (Key × PyData)) (k : Key) (d : PyData) : List (Key × PyData) :=
  if (kvs.any fun kv => decide (kv.1 = k)) = true then kvs.map (fun kv => if kv.1 = k then (kv.1, d) else kv) else kvs ++ [(k, d)]
def obK (o : Option Ob) : Option (List (Key × PyData)) := match o with
  | some (.dic kvs) => some kvs
  | _ => none
@[simp] theorem v_obK {kvs : List (Key × PyData)} : obK (some (.dic kvs)) = some kvs := id rfl
def dicS (s : Sl) (h : Hs) : Option (List (Key × PyData)) := match s with
  | .loc n => obK h[n]?
  | _ => none
def keyS (s : Sl) : Option Key := match s with
  | .val (.int i) => some (.inl i)
  | _ => none
/-- what stands in the heap behind a dict -/
structure DicAt (K : PySem.W.Frag) (H : Hp) (M : Ms) (a : Addr) (vs : List (Key × V)) (kvs : List (Key × PyData)) : Prop where
  at_ : H a = some (.dK vs)
  keys : vs.map (·.1) = kvs.map (·.1)
  all : RpAll K H M (vs.map (·.2)) (kvs.map (·.2))
theorem DicAt.len {K : PySem.W.Frag} {H : Hp} {M : Ms} {a : Addr} {vs : List (Key × V)} {kvs : List (Key × PyData)} (d : DicAt K H M a vs kvs) : vs.length = kvs.length := by
  have := congrArg List.length d.keys
  simpa using this
theorem Po.mono {α β : Type} {K : PySem.W.Frag} {mg : Str → Option Value} {C : Fc} {Wx : WX} {σ : St} {ρ : Fps} {H : Hp} {rel : Fps → Hp → β → α → Prop} {r : Rz α} {Q Q' : β → Hp → Prop} (P : Po K mg C Wx σ ρ H rel r Q) (f : ∀ v H, Q v H → Q' v H) : Po K mg C Wx σ ρ H rel r Q' := by
  cases r with
  | ok a h => exact fun ρ' v H' x S q => f v H' (P ρ' v H' x S q)
  | err x h => exact P
  | bad => exact P
def gDIn : G2 := fun s t h => match keyS s, dicS t h with
  | some k, some kvs => some (.bool (lookD kvs k).isSome)
  | _, _ => none
def gDNotIn : G2 := fun s t h => match keyS s, dicS t h with
  | some k, some kvs => some (.bool (!(lookD kvs k).isSome))
  | _, _ => none
def gDIx : G2 := fun s t h => match dicS s h, keyS t with
  | some kvs, some k => lookD kvs k
  | _, _ => none
def gDGet : G2 := fun s t h => match dicS s h, keyS t with
  | some kvs, some k => some ((lookD kvs k).getD .none)
  | _, _ => none
section
variable {X : Cx} {C : Fc} {Wx : WX}
def eDGet (f1 f2 : Ev) : Ev := fun env h => (f1 env h).bind fun s h => if (dicS s h).isSome = true then (f2 env h).bind fun t h => .give (gDGet s t h) h else .bad
def dputAt (s t u : Sl) (h : Hs) : Option Hs := match s, keyS t, u with
  | .loc n, some k, .val d => match obK h[n]? with
    | some kvs => if kvs.length < 16777216 then some (h.set n (.dic (putD kvs k d))) else none
    | none => none
  | _, _, _ => none
def sDPut (fo fi fe : Ev) : Sv := fun env h => (fe env h).fl env fun u h => (fo env h).fl env fun s h => (fi env h).fl env fun t h => match dputAt s t u h with
  | some h' => .next env h'
  | none => .bad
end
section
variable {env : En} {h : Hs} {f1 f2 f3 : Ev} {kvs : List (Key × PyData)} {i : Nat} {k : Int} {d : PyData} {n : Nat}
@[simp] theorem v_dicS : dicS (.loc n) h = obK h[n]? := id rfl
@[simp] theorem v_keyS : keyS (.val (.int k)) = some (.inl k) := id rfl
def din? (a : Option Key) (b : Option (List (Key × PyData))) : Option PyData := match a, b with
  | some k, some kvs => some (.bool (lookD kvs k).isSome)
  | _, _ => none
@[simp] theorem v_din1 {ky : Key} : din? (some ky) (some kvs) = some (.bool (lookD kvs ky).isSome) := id rfl
@[simp] theorem v_gDIn {s t : Sl} : gDIn s t h = din? (keyS s) (dicS t h) := id rfl
@[simp] theorem v_gDNot {s t : Sl} : gDNotIn s t h = (din? (keyS s) (dicS t h)).bind fun z => match z with
  | .bool b => some (.bool (!b))
  | _ => none := by
  unfold gDNotIn din?
  cases keyS s <;> cases dicS t h <;> rfl
def dix? (b : Option (List (Key × PyData))) (a : Option Key) : Option PyData := match b, a with
  | some kvs, some k => lookD kvs k
  | _, _ => none
@[simp] theorem v_dix1 {ky : Key} : dix? (some kvs) (some ky) = lookD kvs ky := id rfl
@[simp] theorem v_gDIx {s t : Sl} : gDIx s t h = dix? (dicS s h) (keyS t) := id rfl
def dgt? (b : Option (List (Key × PyData))) (a : Option Key) : Option PyData := match b, a with
  | some kvs, some k => some ((lookD kvs k).getD .none)
  | _, _ => none
@[simp] theorem v_dgt1 {ky : Key} : dgt? (some kvs) (some ky) = some ((lookD kvs ky).getD .none) := id rfl
@[simp] theorem v_gDGet {s t : Sl} : gDGet s t h = dgt? (dicS s h) (keyS t) := id rfl
def dget? (o : Option (List (Key × PyData))) (r : Rz Sl) : Rz Sl := if o.isSome = true then r else .bad
@[simp] theorem v_dget2 {r : Rz Sl} : dget? (some kvs) r = r := id rfl
@[simp] theorem v_eDGet : eDGet f1 f2 env h = (f1 env h).bind fun s h => dget? (dicS s h) ((f2 env h).bind fun t h => .give (gDGet s t h) h) := id rfl
def put? (o : Option Hs) (env : En) : Fl := match o with
  | some h' => .next env h'
  | none => .bad
@[simp] theorem v_put1 {h' : Hs} : put? (some h') env = .next env h' := id rfl
@[simp] theorem v_sDPut : sDPut f1 f2 f3 env h = (f3 env h).fl env fun u h => (f1 env h).fl env fun s h => (f2 env h).fl env fun t h => put? (dputAt s t u h) env := by
  unfold sDPut put?
  rfl
end
end FL
namespace FL
open PySem PySem.Spec PyProof.Rows L2
def zipD : List PyData → List PyData → List PyData
  | d :: ds, e :: es => .tuple [d, e] :: zipD ds es
  | _, _ => []
def srcZip (f : Av) : En → Hs → Rz (List PyData) := fun env h => (f env h).bind fun ss h => match ss with
  | [.val (.tuple ds), .val (.tuple es)] => .ok (zipD ds es) h
  | [.val (.list ds), .val (.list es)] => .ok (zipD ds es) h
  | _ => .bad
def zip? (ss : List Sl) (h : Hs) : Rz (List PyData) := match ss with
  | [.val (.tuple ds), .val (.tuple es)] => .ok (zipD ds es) h
  | [.val (.list ds), .val (.list es)] => .ok (zipD ds es) h
  | _ => .bad
@[simp] theorem v_zipT {ds es : List PyData} {h : Hs} : zip? [.val (.tuple ds), .val (.tuple es)] h = .ok (zipD ds es) h := id rfl
@[simp] theorem v_zipL {ds es : List PyData} {h : Hs} : zip? [.val (.list ds), .val (.list es)] h = .ok (zipD ds es) h := id rfl
@[simp] theorem v_srcZip {f : Av} {env : En} {h : Hs} : srcZip f env h = (f env h).bind fun ss h => zip? ss h := id rfl
end FL
namespace FL
open PySem PySem.Spec PyProof.Rows L2 PySem.W
def nonB : PyData → Bool
  | .none => true
  | _ => false
def minB (ds : List PyData) : Bool := ds.all (fun d => ds.all fun e => alike d e) && ds.all (fun d => !nonB d) && decide (PyData.depthAll ds ≤ 60) && !PyData.hasDictAll ds
def pairD (p : Nat × Nat) : PyData := .tuple [.int (p.1 : Nat), .int (p.2 : Nat)]
theorem lt_pair (a b : Nat × Nat) : dataLt (pairD a) (pairD b) = decide (a.1 < b.1 ∨ (a.1 = b.1 ∧ a.2 < b.2)) := by
  unfold pairD
  rw [dataLt_pair (by simp [alike]) (by simp [alike]), dataLt_int, dataLt_int]
  simp only [PyData.eqv]
  by_cases h1 : a.1 = b.1
  · by_cases h2 : a.2 = b.2
    · simp [h1, h2]
    · simp [h1]
      by_cases h3 : a.2 < b.2
      · have : ¬ (a.2 : Int) = b.2 := by omega
        simp [h3, this]
      · simp [h3]
  · by_cases h3 : a.1 < b.1
    · have : ¬ (a.1 : Int) = b.1 := by omega
      simp [h1, h3, this]
    · have : ¬ (a.1 : Int) = b.1 := by omega
      simp [h1, h3, this]
end FL
namespace FL
open PySem PySem.Spec PyProof.Rows L2
section
variable {X : Cx} {C : Fc}
def gNotX : G2 := fun s t h => match s, t with
  | .val (.bool a), .val (.bool b) => some (.bool (!(a == b)))
  | s, t => gNotN s t h
end
@[simp] theorem v_notXB {a b : Bool} {h : Hs} : gNotX (.val (.bool a)) (.val (.bool b)) h = some (.bool (!(a == b))) := id rfl
end FL
namespace FL
open PySem PySem.Spec PyProof.Rows L2
def eOrV (f g : Ev) : Ev := fun env h => (f env h).bind fun s h => match s with
  | .val .none => g env h
  | .val (.int i) => if i = 0 then g env h else .ok (.val (.int i)) h
  | _ => .bad
def orV? (s : Sl) (h : Hs) (r : Rz Sl) : Rz Sl := match s with
  | .val .none => r
  | .val (.int i) => if i = 0 then r else .ok (.val (.int i)) h
  | _ => .bad
@[simp] theorem v_orV {f g : Ev} {env : En} {h : Hs} : eOrV f g env h = (f env h).bind fun s h => orV? s h (g env h) := by
  unfold eOrV orV?
  rfl
@[simp] theorem v_orVN {h : Hs} {r : Rz Sl} : orV? (.val .none) h r = r := id rfl
@[simp] theorem v_orVI {h : Hs} {i : Int} {r : Rz Sl} : orV? (.val (.int i)) h r = if i = 0 then r else .ok (.val (.int i)) h := id rfl
end FL
namespace FL
open PySem PySem.Spec PyProof.Rows L2
def gStr : GL := fun ss _ => match ss with
  | [.val (.int i)] => if i.natAbs.log2 < 1920 then some (.str (toString i)) else none
  | _ => none
def txts? : List PyData → Option (List Str)
  | [] => some []
  | .str b :: r => (txts? r).map (b :: ·)
  | _ :: _ => none
def gJoin (sep : Str) : Sl → Hs → Option PyData := fun s h => match (litems s h).bind txts? with
  | some ys => if (ys.map (·.length)).sum + ys.length * sep.length ≤ 16777216 then some (.str (Txt.join sep ys)) else none
  | none => none
def eOrS (f g : Ev) : Ev := fun env h => (f env h).bind fun s h => match s with
  | .val (.str t) => if t.length = 0 then g env h else if t.length ≤ 16777216 then .ok (.val (.str t)) h else .bad
  | _ => .bad
def keyT (s : Sl) : Option Key := match s with
  | .val (.int i) => some (.inl i)
  | .val (.str t) => some (.inr t)
  | _ => none
theorem keyT_rel {K : PySem.W.Frag} {C : Fc} {ρ : Fps} {H : Hp} {s : Sl} {v : V} {k : Key} (r : SlV K C ρ H v s) (e : keyT s = some k) : v = kV k := by
  unfold keyT at e
  split at e
  · rename_i i
    cases e
    cases (show Rp K H (Mo C ρ) v (.int i) from r)
    rfl
  · rename_i i
    cases e
    cases (show Rp K H (Mo C ρ) v (.str i) from r)
    rfl
  · cases e
def setdAt (s t u : Sl) (h : Hs) : Rz Sl := match s, keyT t, u with
  | .loc n, some k, .val d => match obK h[n]? with
    | some kvs => match lookD kvs k with
      | some d' => if kvs.length < 16777216 then .ok (.val d') h else .bad
      | none => if kvs.length < 16777216 then .ok (.val d) (h.set n (.dic (putD kvs k d))) else .bad
    | none => .bad
  | _, _, _ => .bad
def eSetd (f1 f2 f3 : Ev) : Ev := fun env h => (f1 env h).bind fun s h => if (dicS s h).isSome = true then (f2 env h).bind fun t h => (f3 env h).bind fun u h => setdAt s t u h else .bad
def eDic0 : Ev := fun _ h => .ok (.loc h.length) (h ++ [.dic []])
section
variable {env : En} {h : Hs} {f1 f2 f3 : Ev} {kvs : List (Key × PyData)} {i : Int} {d : PyData} {n : Nat} {t sep : Str}
@[simp] theorem v_gStr : gStr [.val (.int i)] h = if i.natAbs.log2 < 1920 then some (.str (toString i)) else none := id rfl
def join? (sep : Str) (o : Option (List Str)) : Option PyData := match o with
  | some ys => if (ys.map (·.length)).sum + ys.length * sep.length ≤ 16777216 then some (.str (Txt.join sep ys)) else none
  | none => none
@[simp] theorem v_gJoin {s : Sl} : gJoin sep s h = join? sep ((litems s h).bind txts?) := by
  unfold gJoin join?
  rfl
def orS? (s : Sl) (h : Hs) (r : Rz Sl) : Rz Sl := match s with
  | .val (.str t) => if t.length = 0 then r else if t.length ≤ 16777216 then .ok (.val (.str t)) h else .bad
  | _ => .bad
@[simp] theorem v_orS : eOrS f1 f2 env h = (f1 env h).bind fun s h => orS? s h (f2 env h) := by
  unfold eOrS orS?
  rfl
@[simp] theorem v_orST {r : Rz Sl} : orS? (.val (.str t)) h r = if t.length = 0 then r else if t.length ≤ 16777216 then .ok (.val (.str t)) h else .bad := id rfl
@[simp] theorem v_keyTi : keyT (.val (.int i)) = some (.inl i) := id rfl
@[simp] theorem v_keyTs : keyT (.val (.str t)) = some (.inr t) := id rfl
@[simp] theorem v_dic0 : eDic0 env h = .ok (.loc h.length) (h ++ [.dic []]) := id rfl
def setd? (o : Option (List (Key × PyData))) (r : Rz Sl) : Rz Sl := if o.isSome = true then r else .bad
@[simp] theorem v_setd2 {r : Rz Sl} : setd? (some kvs) r = r := id rfl
@[simp] theorem v_eSetd : eSetd f1 f2 f3 env h = (f1 env h).bind fun s h => setd? (dicS s h) ((f2 env h).bind fun t h => (f3 env h).bind fun u h => setdAt s t u h) := id rfl
end
end FL
namespace FL
open PySem PySem.Spec PyProof.Rows L2
section
variable {K : PySem.W.Frag} {C : Fc} {ρ : Fps} {h : Hs} {H : Hp}
/-- an object is changed; it may gain new parts -/
theorem SimH.chg (S : SimH K C ρ h H) {n : Nat} {fp fq : List Addr} {o o' : Ob} {H' : Hp} (hn : fq = [] ∨ C.W.length ≤ n) (e1 : ρ[n]? = some fp) (e2 : h[n]? = some o) (nd' : (ρ.set n (fp ++ fq)).flatten.Nodup) (hq : ∀ b ∈ fq, H b = none)
    (same : ∀ c, c ∉ fp → c ∉ fq → H' c = H c) (there : ∀ c, c ∈ fp ++ fq → ∃ o, H' c = some o) (x : Stp (Mo C ρ) H (Mo C (ρ.set n (fp ++ fq))) H' → ObOk K H' (Mo C (ρ.set n (fp ++ fq))) (fp ++ fq) o') :
    SimH K C (ρ.set n (fp ++ fq)) (h.set n o') H' ∧ Ex C ρ H (ρ.set n (fp ++ fq)) H' := by
  have mfp : ∀ c ∈ fp, c ∈ ρ.flatten := fun c m => flat_at e1 m
  have nb : ∀ b ∈ fq, b ∉ ρ.flatten := fun b m z => by
    obtain ⟨o, q⟩ := S.trk b z
    rw [hq b m] at q; cases q
  have nbar : ∀ b ∈ fq, ¬ C.Bar b := fun b m z => by
    obtain ⟨_, o, q⟩ := S.bar b z
    rw [hq b m] at q; cases q
  have sm : ∀ c u, H c = some u → c ∉ fp → H' c = some u := fun c u q nf => by
    rw [same c nf fun z => by rw [hq c z] at q; cases q]
    exact q
  have sp : ∀ c ∈ fp ++ fq, c ∈ ρ.flatten ∨ c ∈ fq := fun c m => by
    rcases List.mem_append.mp m with z | z
    · exact .inl (mfp c z)
    · exact .inr z
  have fl : ∀ c, c ∈ (ρ.set n (fp ++ fq)).flatten → c ∈ ρ.flatten ∨ c ∈ fq := fun c m => by
    rcases flat_setF e1 m with z | z
    · exact .inl z
    · exact sp c z
  have Mnew : ∀ c, Mo C (ρ.set n (fp ++ fq)) c → Mo C ρ c ∨ c ∈ fq := fun c m => by
    rcases m with m | m
    · rcases fl c m with z | z
      · exact .inl (.inl z)
      · exact .inr z
    · exact .inl (.inr m)
  have st : Stp (Mo C ρ) H (Mo C (ρ.set n (fp ++ fq))) H' := ⟨keepE fun c u q nm => sm c u q fun z => nm (.inl (mfp c z)), fun c m => by
    rcases Mnew c m with z | z
    · exact .inl z
    · exact .inr (hq c z)⟩
  have tk : TabKp H H' := ⟨fun c ps q => sm c _ q fun z => by
    obtain ⟨u, hu, nt⟩ := ObOk.nte (S.obj n fp o e1 e2) z
    rw [q] at hu
    cases hu
    exact nt.1 _ rfl, fun c f q => sm c _ q fun z => by
    obtain ⟨u, hu, nt⟩ := ObOk.nte (S.obj n fp o e1 e2) z
    rw [q] at hu
    cases hu
    exact nt.2 _ rfl⟩
  have nln : n < ρ.length := (List.getElem?_eq_some_iff.mp e1).1
  have at_ : ∀ a, (∃ u, H a = some u) ∨ a ∈ fp ++ fq → ∃ u, H' a = some u := fun a q => by
    rcases q with ⟨u, q⟩ | q
    · by_cases z : a ∈ fp
      · exact there a (List.mem_append_left _ z)
      · exact ⟨u, sm a u q z⟩
    · exact there a q
  refine ⟨⟨by rw [List.length_set, List.length_set]; exact S.len, nd', fun a m => ?_, fun k fr ob q1 q2 => ?_, fun c u q nw => ?_, fun a m => ?_, fun c m => ?_, fun a m => at_ a (.inl (S.wtr a m)), fun k fr q => ?_, tk.tabs S.tab, fun c xs m z => S.bnt c xs m (by
    obtain ⟨n1, o, e⟩ := S.bar c m
    rw [sm c o e fun w => n1 (mfp c w)] at z
    rw [e]
    exact z)⟩, st, fun k fr q => ?_⟩
  · rcases flat_setF e1 m with z | z
    · exact at_ a (.inl (S.trk a z))
    · exact at_ a (.inr z)
  · by_cases hk : n = k
    · subst hk
      rw [List.getElem?_set, if_pos rfl] at q1 q2
      rw [if_pos nln] at q1
      cases q1
      split at q2
      · cases q2
        exact x st
      · cases q2
    · rw [List.getElem?_set_ne hk] at q1 q2
      refine ObOk.stp st (fun c m => ?_) (S.obj k fr ob q1 q2)
      have mc := flat_at q1 m
      exact same c (fun z => hk (nodup_apart S.nd e1 q1 z m)) (fun z => nb c z mc)
  · obtain ⟨u', q', kk⟩ := S.frK c u q nw
    refine ⟨u', sm c u' q' fun z => ?_, kk⟩
    rcases S.own c (mfp c z) with w' | w'
    · exact nw w'
    · rw [q] at w'; cases w'
  · rcases fl a m with z | z
    · exact S.own a z
    · by_cases hw : a ∈ C.W.flatten
      · exact .inl hw
      · refine .inr ?_
        cases q : C.H0 a with
        | none => rfl
        | some u =>
          obtain ⟨u', q', _⟩ := S.frK a u q hw
          rw [hq a z] at q'; cases q'
  · obtain ⟨n1, u, e⟩ := S.bar c m
    refine ⟨fun z => ?_, u, sm c u e fun z => n1 (mfp c z)⟩
    rcases fl c z with y | y
    · exact n1 y
    · exact nbar c y m
  · have e' := S.pre k fr q
    by_cases hk : n = k
    · subst hk
      rcases hn with z | z
      · subst z
        rw [e1] at e'
        cases e'
        rw [List.getElem?_set, if_pos rfl, if_pos nln, List.append_nil]
      · have := (List.getElem?_eq_some_iff.mp q).1
        omega
    · rw [List.getElem?_set_ne hk]
      exact e'
  · by_cases hk : n = k
    · subst hk
      rw [e1] at q
      cases q
      exact ⟨fp ++ fq, by rw [List.getElem?_set, if_pos rfl, if_pos nln], ⟨fq, rfl⟩⟩
    · exact ⟨fr, by rw [List.getElem?_set_ne hk]; exact q, pfx_rfl⟩
theorem set_self {ρ : Fps} {n : Nat} {fp : List Addr} (e : ρ[n]? = some fp) : ρ.set n fp = ρ := by
  apply List.ext_getElem?
  intro i
  by_cases hi : n = i
  · subst hi
    rw [List.getElem?_set, if_pos rfl, if_pos (List.getElem?_eq_some_iff.mp e).1, e]
  · rw [List.getElem?_set_ne hi]
theorem fp_nd (S : SimH K C ρ h H) {n : Nat} {fp : List Addr} (e : ρ[n]? = some fp) : fp.Nodup := S.nd.sublist (List.sublist_flatten_of_mem (List.mem_of_getElem? e))
end
def lookN (ks : List (Key × Nat)) (k : Key) : Option Nat := (ks.find? fun r => decide (r.1 = k)).map (·.2)
def dropN (ks : List (Key × Nat)) (k : Key) : List (Key × Nat) := ks.filter fun r => decide (r.1 ≠ k)
def rfs (bs : List Addr) (ks : List (Key × Nat)) : List (Key × V) := ks.map fun r => (r.1, V.ref (bs.getD r.2 0))
theorem val_rfs {bs : List Addr} {k : Key} : ∀ ks : List (Key × Nat), valV (rfs bs ks) k = (lookN ks k).map fun i => V.ref (bs.getD i 0)
  | [] => rfl
  | r :: ks => by
    have ih := val_rfs (bs := bs) (k := k) ks
    by_cases e : r.1 = k
    · have e1 : lookN (r :: ks) k = some r.2 := by unfold lookN; rw [List.find?_cons]; simp [e]
      rw [e1]
      exact valV_pos (p := (r.1, V.ref (bs.getD r.2 0))) e
    · have e1 : lookN (r :: ks) k = lookN ks k := by unfold lookN; rw [List.find?_cons]; simp [e]
      rw [e1, ← ih]
      exact valV_neg (p := (r.1, V.ref (bs.getD r.2 0))) e
theorem drop_rfs {bs : List Addr} {k : Key} (ks : List (Key × Nat)) : dropK (rfs bs ks) k = rfs bs (dropN ks k) := by
  unfold dropK rfs dropN
  rw [List.filter_map]
  rfl
theorem look_mem {ks : List (Key × Nat)} {k : Key} {i : Nat} (e : lookN ks k = some i) : ∃ r ∈ ks, r.2 = i := by
  unfold lookN at e
  obtain ⟨r, e1, e2⟩ := Option.map_eq_some_iff.mp e
  exact ⟨r, List.mem_of_find?_eq_some e1, e2⟩
theorem put_rfs {bs : List Addr} {k : Key} {v : V} {ks : List (Key × Nat)} (e : lookN ks k = none) : putK (rfs bs ks) k v = rfs bs ks ++ [(k, v)] := by
  unfold putK
  rw [valV_any, val_rfs, e]
  rfl
theorem rfs_app {bs : List Addr} {b : Addr} {ks : List (Key × Nat)} (h : ∀ r ∈ ks, r.2 < bs.length) : rfs (bs ++ [b]) ks = rfs bs ks := by
  unfold rfs
  refine List.map_congr_left fun r m => ?_
  have := h r m
  rw [List.getD_eq_getElem?_getD, List.getD_eq_getElem?_getD, List.getElem?_append_left this]
def dil? (o : Option Ob) : Option (List (List PyData) × List (Key × Nat)) := match o with
  | some (.dil dss ks) => some (dss, ks)
  | _ => none
theorem dil_some {o : Option Ob} {p : List (List PyData) × List (Key × Nat)} (e : dil? o = some p) : o = some (.dil p.1 p.2) := by
  unfold dil? at e
  split at e
  · cases e; rfl
  · cases e
def dilS (s : Sl) (h : Hs) : Option (List (List PyData) × List (Key × Nat)) := match s with
  | .loc n => dil? h[n]?
  | _ => none
/-- d.setdefault(k, []) -/
def setLAt (w : Nat) (s t : Sl) (h : Hs) : Rz Sl := match s, keyT t with
  | .loc n, some k => match dil? h[n]? with
    | some p => if p.2.length < 16777216 then (match lookN p.2 k with
      | some i => .ok (.inn n i) h
      | none => if w ≤ n then .ok (.inn n p.1.length) (h.set n (.dil (p.1 ++ [[]]) (p.2 ++ [(k, p.1.length)]))) else .bad) else .bad
    | none => .bad
  | _, _ => .bad
def eSetL (w : Nat) (f1 f2 : Ev) : Ev := fun env h => (f1 env h).bind fun s h => if (dilS s h).isSome = true then (f2 env h).bind fun t h => setLAt w s t h else .bad
/-- d.pop(k, []) -/
def popLAt (s t : Sl) (h : Hs) : Rz Sl := match s, keyT t with
  | .loc n, some k => match dil? h[n]? with
    | some p => (match lookN p.2 k with
      | some i => .ok (.inn n i) (h.set n (.dil p.1 (dropN p.2 k)))
      | none => .ok (.val (.list [])) h)
    | none => .bad
  | _, _ => .bad
def ePopL (f1 f2 : Ev) : Ev := fun env h => (f1 env h).bind fun s h => if (dilS s h).isSome = true then (f2 env h).bind fun t h => popLAt s t h else .bad
/-- d != {} -/
def gNeD : G2 := fun s t h => match dilS s h, t with
  | some p, .val (.dict []) => some (.bool (!p.2.isEmpty))
  | _, _ => none
section
variable {K : PySem.W.Frag} {C : Fc} {ρ : Fps} {h : Hs} {H : Hp}
theorem dil_rel {s : Sl} {v : V} {p : List (List PyData) × List (Key × Nat)} (S : SimH K C ρ h H) (r : SlV K C ρ H v s) (e : dilS s h = some p) : ∃ (n : Nat) (a : Addr) (bs : List Addr), s = .loc n ∧ v = .ref a ∧ ρ[n]? = some (a :: bs) ∧ h[n]? = some (.dil p.1 p.2) ∧ H a = some (.dK (rfs bs p.2)) ∧ (∀ r ∈ p.2, r.2 < bs.length) ∧ bs.length = p.1.length ∧ ∀ (i : Nat) (b : Addr) (ds : List PyData), bs[i]? = some b → p.1[i]? = some ds → ∃ vs, H b = some (.lst vs) ∧ RpAll K H (Mo C ρ) vs ds := by
  unfold dilS at e
  split at e
  · rename_i n
    have e1 := dil_some e
    obtain ⟨fp, a, e2, e3, rfl⟩ := r
    obtain ⟨b, bs, rfl, h1, h2, h3, h4⟩ := S.obj n fp _ e2 e1
    have : b = a := by simpa using e3
    subst this
    exact ⟨n, b, bs, rfl, rfl, e2, e1, h1, h2, h3, h4⟩
  · cases e
end
section
variable {X : Cx} {C : Fc} {Wx : WX}
theorem o_neD (hu : X.A.units + 65 < cLine) : OpR X (compareOp .NotEq) (rd2 X.K C gNeD) := by
  intro pins s σ H x y v u Q I rx ry ⟨ρ, h, s1, t1, d, S, r1, r2, e, k⟩
  unfold gNeD at e
  split at e
  · rename_i p e1
    cases e
    obtain ⟨n, a, bs, rfl, rfl, _, _, hD, _⟩ := dil_rel S r1 e1
    obtain rfl : v = Value.ref a := rx
    cases (show Rp X.K H (Mo C ρ) y (.dict []) from r2) with
    | @dct b ps ds hq hds =>
      have hps : ps = .dic [] := by
        cases ps with
        | dic ps =>
          cases ps with
          | nil => rfl
          | cons _ _ => cases hds
        | lam x n => cases hds
      subst hps
      obtain rfl : u = Value.ref b := ry
      have eb : H b = some (.dK []) := hq.1
      obtain ⟨_, ya, va, ra, da⟩ := (show ObjOk X.prog X.w H s.heap a (.dK (rfs bs p.2)) from I.hok a _ hD)
      obtain ⟨_, yb, vb, rb, db⟩ := (show ObjOk X.prog X.w H s.heap b (.dK []) from I.hok b _ eb)
      have lb : vb.length = 0 := by rw [← rb.length]; rfl
      have la : va.length = p.2.length := by rw [← ra.length]; simp [rfs]
      refine PySem.W.keq_ne (knd := mixKind X.prog X.w) (r := true) ya yb da db (by omega) (fun z => ?_) (fin_bl I (k _ H (Ex.refl _ _ _) S (.bl _)) ?_)
      · have : rfs bs p.2 = [] := by
          have : p.2 = [] := List.eq_nil_of_length_eq_zero (by omega)
          rw [this]
          rfl
        rw [this] at ra
        exact hits_all rb ra (fun q m => nomatch m)
      · rw [la, lb]
        cases p.2 <;> simp
  · cases e
theorem fe_setL {w : Nat} {o e : Expr} {f1 f2 : Ev} {lp apos cpos : Pos} (hW : C.W.length = w) (ho : FE X C Wx o f1) (he : FE X C Wx e f2) (m1 : attributeBase o "setdefault" X.env (eval o X.env) = eval o X.env := by rfl) (m2 : ((backTo cpos (starEach [e, .List [] lp] X.env)).all (fun x => !x.1) && (backToKw cpos (keywordEach [] X.env)).all (fun x => x.1.isSome) && decide (([e, .List [] lp] : List Expr).length + ([] : List Keyword).length + (if ([] : List Keyword).isEmpty then 0 else 1) < 30)) = true := by rfl) (m3 : (apos.endLine == cpos.line) = true := by rfl) (m4 : backTo cpos (starEach [e, .List [] lp] X.env) = [(false, eval e X.env), (false, eval (.List [] lp) X.env)] := by rfl) :
    FE X C Wx (.Call (.Attribute o "setdefault" apos) [e, .List [] lp] [] cpos) (eSetL w f1 f2) := PE.imp (pe_dsetd ho he (pe_lst pa_nil) ⟨m1, m2, m3, m4⟩) fun σ H Q p => by
  refine rd.bind (f := f1) (g := fun s env h => if (dilS s h).isSome = true then (f2 env h).bind fun t h => setLAt w s t h else .bad) p fun ρ1 env h1 s x H1 S1 E1 r1 P1 => ?_
  split at P1
  · rename_i hs
    obtain ⟨p0, ek⟩ := Option.isSome_iff_exists.mp hs
    obtain ⟨n, a, bs0, rfl, rfl, _, _, hD0, _⟩ := dil_rel S1 r1 ek
    refine ⟨a, rfl, .inl ⟨_, .inl hD0⟩, rd.of (env := env) (h := h1) S1 E1 ?_⟩
    cases q : f2 env h1 with
    | bad => rw [q] at P1; exact P1
    | err y h2 => rw [q] at P1; exact P1
    | ok t h2 =>
      intro ρ2 y H2 x2 S2 r2
      refine ⟨Nat.zero_le _, fun b hb => ?_⟩
      rw [q, v_bind] at P1
      have P2 := Po.ex x2 P1
      unfold setLAt at P2
      split at P2
      · rename_i n' k en ekt
        cases en
        cases qo : dil? h2[n]? with
        | none => rw [qo] at P2; exact P2.elim
        | some p =>
          rw [qo] at P2
          dsimp only at P2
          obtain ⟨n2, a2, bs, en, ea, e1, e2, hD, hlt, hlen, hw⟩ := dil_rel (s := .loc n) S2 (SlV.ex x2 r1) qo
          cases en
          cases ea
          have ey := keyT_rel r2 ekt
          subst ey
          split at P2
          · rename_i hl
            have hab : a ≠ b := ne_of_none hD hb
            have hD3 : upd H2 b (.lst []) a = some (.dK (rfs bs p.2)) := by rw [upd_ne hab]; exact hD
            refine ⟨rfs bs p.2, k, hD3, rfl, by rw [sizeLine_eq]; simpa [rfs] using hl, fun v ev => ?_, fun ev => ?_⟩
            · rw [val_rfs] at ev
              cases ql : lookN p.2 k with
              | none => rw [ql] at ev; cases ev
              | some i =>
                rw [ql] at ev P2
                dsimp only at P2
                cases ev
                obtain ⟨r, mr, er⟩ := look_mem ql
                have hi : i < bs.length := er ▸ hlt r mr
                refine P2 ρ2 _ _ (Ex.laid S2 hb) (S2.laid hb) ⟨_, bs[i], e1, by simp [hi], ?_⟩
                show V.ref (bs.getD i 0) = _
                rw [List.getD_eq_getElem?_getD, List.getElem?_eq_getElem hi]
                rfl
            · rw [val_rfs] at ev
              cases ql : lookN p.2 k with
              | some i => rw [ql] at ev; cases ev
              | none =>
                rw [ql] at P2
                dsimp only at P2
                split at P2
                · rename_i hwn
                  rw [put_rfs ql]
                  have nb : b ∉ ρ2.flatten := fun z => by
                    obtain ⟨u, qq⟩ := S2.trk b z
                    rw [hb] at qq; cases qq
                  have nbb : b ∉ bs := fun z => nb (flat_at e1 (List.mem_cons_of_mem _ z))
                  have ndf := fp_nd S2 e1
                  have nab : a ∉ bs := (List.nodup_cons.mp ndf).1
                  have W := S2.chg (fq := [b]) (o' := .dil (p.1 ++ [[]]) (p.2 ++ [(k, p.1.length)])) (H' := upd (upd H2 b (.lst [])) a (.dK (rfs bs p.2 ++ [(k, V.ref b)]))) (.inr (by omega)) e1 e2 (flat_setN S2.nd e1 nb) (fun c m => by rw [List.mem_singleton.mp m]; exact hb)
                    (fun c h1 h2 => by
                      rw [upd_ne fun z => h1 (by rw [z]; exact List.mem_cons_self), upd_ne fun z => h2 (List.mem_singleton.mpr z)])
                    (fun c m => by
                      rcases List.mem_append.mp m with m | m
                      · rcases List.mem_cons.mp m with rfl | m
                        · exact ⟨_, upd_same⟩
                        · obtain ⟨u, qq⟩ := S2.trk c (flat_at e1 (List.mem_cons_of_mem _ m))
                          exact ⟨u, by rw [upd_ne fun z => nab (by rw [← z]; exact m), upd_ne fun z => nbb (by rw [← z]; exact m)]; exact qq⟩
                      · rw [List.mem_singleton.mp m]
                        exact ⟨.lst [], by rw [upd_ne (Ne.symm hab), upd_same]⟩)
                    (fun st => by
                      refine ⟨a, bs ++ [b], rfl, ?_, fun r m => ?_, by simp [hlen], fun i c ds g1 g2 => ?_⟩
                      · rw [upd_same]
                        show _ = some (HO.dK (rfs (bs ++ [b]) (p.2 ++ [(k, p.1.length)])))
                        have : rfs (bs ++ [b]) (p.2 ++ [(k, p.1.length)]) = rfs (bs ++ [b]) p.2 ++ [(k, V.ref b)] := by
                          unfold rfs
                          rw [List.map_append, List.map_cons, List.map_nil, List.getD_eq_getElem?_getD, ← hlen]
                          simp
                        rw [this, rfs_app hlt]
                      · rw [List.length_append, List.length_singleton]
                        rcases List.mem_append.mp m with m | m
                        · have := hlt r m
                          omega
                        · rw [List.mem_singleton.mp m, hlen]
                          exact Nat.lt_succ_self _
                      · by_cases hi : i < bs.length
                        · rw [List.getElem?_append_left hi] at g1
                          rw [List.getElem?_append_left (by omega)] at g2
                          obtain ⟨vs, h3, rr⟩ := hw i c ds g1 g2
                          have mc := List.mem_of_getElem? g1
                          exact ⟨vs, by rw [upd_ne fun z => nab (by rw [← z]; exact mc), upd_ne fun z => nbb (by rw [← z]; exact mc)]; exact h3, rr.stp st⟩
                        · have hi2 : i = bs.length := by
                            have := (List.getElem?_eq_some_iff.mp g1).1
                            simp at this
                            omega
                          subst hi2
                          rw [List.getElem?_append_right (Nat.le_refl _)] at g1
                          rw [hlen, List.getElem?_append_right (Nat.le_refl _)] at g2
                          simp at g1 g2
                          subst g1; subst g2
                          exact ⟨[], by rw [upd_ne (Ne.symm hab), upd_same], .nil⟩)
                  refine P2 _ _ _ W.2 W.1 ⟨(a :: bs) ++ [b], b, ?_, ?_, rfl⟩
                  · rw [List.getElem?_set, if_pos rfl, if_pos (List.getElem?_eq_some_iff.mp e1).1]
                  · rw [← hlen]
                    simp
                · exact P2.elim
          · exact P2.elim
      · exact P2.elim
  · exact P1.elim
theorem fe_popL {o e : Expr} {f1 f2 : Ev} {lp apos cpos : Pos} (ho : FE X C Wx o f1) (he : FE X C Wx e f2) (m1 : attributeBase o "pop" X.env (eval o X.env) = eval o X.env := by rfl) (m2 : ((backTo cpos (starEach [e, .List [] lp] X.env)).all (fun x => !x.1) && (backToKw cpos (keywordEach [] X.env)).all (fun x => x.1.isSome) && decide (([e, .List [] lp] : List Expr).length + ([] : List Keyword).length + (if ([] : List Keyword).isEmpty then 0 else 1) < 30)) = true := by rfl) (m3 : (apos.endLine == cpos.line) = true := by rfl) (m4 : backTo cpos (starEach [e, .List [] lp] X.env) = [(false, eval e X.env), (false, eval (.List [] lp) X.env)] := by rfl) :
    FE X C Wx (.Call (.Attribute o "pop" apos) [e, .List [] lp] [] cpos) (ePopL f1 f2) := PE.imp (pe_dpop2 ho he (pe_lst pa_nil) ⟨m1, m2, m3, m4⟩) fun σ H Q p => by
  refine rd.bind (f := f1) (g := fun s env h => if (dilS s h).isSome = true then (f2 env h).bind fun t h => popLAt s t h else .bad) p fun ρ1 env h1 s x H1 S1 E1 r1 P1 => ?_
  split at P1
  · rename_i hs
    obtain ⟨p0, ek⟩ := Option.isSome_iff_exists.mp hs
    obtain ⟨n, a, bs0, rfl, rfl, _, _, hD0, _⟩ := dil_rel S1 r1 ek
    refine ⟨a, rfl, .inl ⟨_, .inl hD0⟩, rd.of (env := env) (h := h1) S1 E1 ?_⟩
    cases q : f2 env h1 with
    | bad => rw [q] at P1; exact P1
    | err y h2 => rw [q] at P1; exact P1
    | ok t h2 =>
      intro ρ2 y H2 x2 S2 r2
      refine ⟨Nat.zero_le _, fun b hb => ?_⟩
      rw [q, v_bind] at P1
      have P2 := Po.ex x2 P1
      unfold popLAt at P2
      split at P2
      · rename_i n' k en ekt
        cases en
        cases qo : dil? h2[n]? with
        | none => rw [qo] at P2; exact P2.elim
        | some p =>
          rw [qo] at P2
          dsimp only at P2
          obtain ⟨n2, a2, bs, en, ea, e1, e2, hD, hlt, hlen, hw⟩ := dil_rel (s := .loc n) S2 (SlV.ex x2 r1) qo
          cases en
          cases ea
          have ey := keyT_rel r2 ekt
          subst ey
          have hab : a ≠ b := ne_of_none hD hb
          have hD3 : upd H2 b (.lst []) a = some (.dK (rfs bs p.2)) := by rw [upd_ne hab]; exact hD
          refine ⟨rfs bs p.2, k, hD3, rfl, fun v ev => ?_, fun ev => ?_⟩
          · rw [val_rfs] at ev
            cases ql : lookN p.2 k with
            | none => rw [ql] at ev; cases ev
            | some i =>
              rw [ql] at ev P2
              dsimp only at P2
              cases ev
              obtain ⟨r, mr, er⟩ := look_mem ql
              have hi : i < bs.length := er ▸ hlt r mr
              rw [drop_rfs]
              have S3 := S2.laid (o := .lst []) hb
              have ndf := fp_nd S2 e1
              have nab : a ∉ bs := (List.nodup_cons.mp ndf).1
              have W := S3.chg (fq := []) (o' := .dil p.1 (dropN p.2 k)) (H' := upd (upd H2 b (.lst [])) a (.dK (rfs bs (dropN p.2 k)))) (.inl rfl) e1 e2 (by rw [List.append_nil, set_self e1]; exact S2.nd) (fun c m => (nomatch m))
                (fun c h1 h2 => by rw [upd_ne fun z => h1 (by rw [z]; exact List.mem_cons_self)])
                (fun c m => by
                  rw [List.append_nil] at m
                  rcases List.mem_cons.mp m with rfl | m
                  · exact ⟨_, upd_same⟩
                  · obtain ⟨u, qq⟩ := S3.trk c (flat_at e1 (List.mem_cons_of_mem _ m))
                    exact ⟨u, by rw [upd_ne fun z => nab (by rw [← z]; exact m)]; exact qq⟩)
                (fun st => by
                  rw [List.append_nil]
                  rw [List.append_nil] at st
                  obtain ⟨a', bs', efp, hD', hlt', hlen', hw'⟩ := S3.obj n _ _ e1 e2
                  cases efp
                  refine ⟨a, bs, rfl, upd_same, fun r m => hlt r (List.mem_filter.mp m).1, hlen, fun i c ds g1 g2 => ?_⟩
                  obtain ⟨vs, h3, rr⟩ := hw' i c ds g1 g2
                  exact ⟨vs, by rw [upd_ne fun z => nab (by rw [← z]; exact List.mem_of_getElem? g1)]; exact h3, rr.stp st⟩)
              rw [List.append_nil, set_self e1] at W
              refine P2 ρ2 _ _ ((Ex.laid S2 hb).trans W.2) W.1 ⟨_, bs[i], e1, by simp [hi], ?_⟩
              show V.ref (bs.getD i 0) = _
              rw [List.getD_eq_getElem?_getD, List.getElem?_eq_getElem hi]
              rfl
          · rw [val_rfs] at ev
            cases ql : lookN p.2 k with
            | some i => rw [ql] at ev; cases ev
            | none =>
              rw [ql] at P2
              dsimp only at P2
              exact P2 ρ2 _ _ (Ex.laid S2 hb) (S2.laid hb) (Rp.newLst S2 hb .nil)
      · exact P2.elim
  · exact P1.elim
/-- d[..].append(x), the list being one of a dict of lists -/
def mAppD : GM := fun s ss h => match s, ss with
  | .inn n i, [.val d] => match dil? h[n]? with
    | some p => match p.1[i]? with
      | some ds => if ds.length < 16777216 then some (.none, h.set n (.dil (p.1.set i (ds ++ [d])) p.2)) else none
      | none => none
    | none => none
  | _, _ => none
theorem m_appD : MtR X "list.append" (rdM X.K C mAppD) := MtR.imp mt_append fun x xs H Q ⟨ρ, h, s, ss, d, h', S, r1, r2, e, k⟩ => by
  unfold mAppD at e
  split at e
  · rename_i n i d0
    split at e
    · rename_i p e3
      split at e
      · rename_i ds e4
        split at e
        · rename_i hl
          cases e
          have e3' := dil_some e3
          obtain ⟨fp, a, e1, e2, rfl⟩ := r1
          obtain ⟨y, rfl, ry⟩ := SlVs.one r2
          obtain ⟨D, bs, rfl, hD, hlt, hlen, hw⟩ := S.obj n fp _ e1 e3'
          have e2' : bs[i]? = some a := by simpa using e2
          obtain ⟨vs, qa, ra⟩ := hw i a ds e2' e4
          have ndf := fp_nd S e1
          have nab : D ∉ bs := (List.nodup_cons.mp ndf).1
          have ma := List.mem_of_getElem? e2'
          have W := S.chg (fq := []) (o' := .dil (p.1.set i (ds ++ [d0])) p.2) (H' := upd H a (.lst (vs ++ [y]))) (.inl rfl) e1 e3' (by rw [List.append_nil, set_self e1]; exact S.nd) (fun c m => (nomatch m))
            (fun c h1 h2 => by rw [upd_ne fun z => h1 (by rw [z]; exact List.mem_cons_of_mem _ ma)])
            (fun c m => by
              by_cases z : c = a
              · rw [z]; exact ⟨_, upd_same⟩
              · rw [List.append_nil] at m
                obtain ⟨u, qq⟩ := S.trk c (flat_at e1 m)
                exact ⟨u, by rw [upd_ne z]; exact qq⟩)
            (fun st => by
              rw [List.append_nil]
              rw [List.append_nil] at st
              refine ⟨D, bs, rfl, by rw [upd_ne fun z => nab (by rw [z]; exact ma)]; exact hD, hlt, by rw [List.length_set]; exact hlen, fun j c es g1 g2 => ?_⟩
              by_cases hj : i = j
              · subst hj
                rw [e2'] at g1
                cases g1
                rw [List.getElem?_set, if_pos rfl, if_pos (List.getElem?_eq_some_iff.mp e4).1] at g2
                cases g2
                exact ⟨_, upd_same, (ra.stp st).append (.cons (Rp.stp st ry) .nil)⟩
              · rw [List.getElem?_set_ne hj] at g2
                obtain ⟨ws, g3, g4⟩ := hw j c es g1 g2
                have : c ≠ a := fun z => by
                  subst z
                  have hbs := (List.nodup_cons.mp ndf).2
                  obtain ⟨l1, q1⟩ := List.getElem?_eq_some_iff.mp e2'
                  obtain ⟨l2, q2⟩ := List.getElem?_eq_some_iff.mp g1
                  exact hj ((List.getElem_inj hbs).mp (q1.trans q2.symm))
                exact ⟨ws, by rw [upd_ne this]; exact g3, g4.stp st⟩)
          rw [List.append_nil, set_self e1] at W
          exact ⟨a, vs, y, rfl, rfl, qa, by rw [ra.length, sizeLine_eq]; exact hl, k .non _ W.2 W.1 .non⟩
        · cases e
      · cases e
    · cases e
  · cases e
def eDil1 (k c : Int) (i : Nat) : Ev := fun env h => match env[i]? with
  | some (some (.val (.int j))) => .ok (.loc h.length) (h ++ [.dil [[.tuple [.int c, .int j]]] [(.inl k, 0)]])
  | _ => .bad
theorem fe_dil1 {i : Nat} {n : Str} {k c : Int} {k1 k2 tk : Nat} {p1 p2 p3 p4 p5 pos : Pos}
    (hN : X.N[i]? = some n := by rfl) (hv : Vis X.env.scope n := by first | exact Or.inl rfl | exact Or.inr (Or.inl rfl) | exact Or.inr (Or.inr rfl)) (hd : (n == ("__debug__" : Str)) = false := by decide) (hcd : (n == ("__classdict__" : Str)) = false := by decide) :
    FE X C Wx (.Dict [some (.Constant (.int k) k1 p1)] [.List [.Tuple [.Constant (.int c) k2 p2, .Name n p3] tk p4] p5] pos) (eDil1 k c i) := by
  refine PE.imp (pe_disp (pps_cons pe_int (pe_lst (pa_cons (pe_tup (pa_cons pe_int (pa_cons (pe_var hN hv hd hcd) pa_nil))) pa_nil)) pps_nil) rfl rfl (by simp) (by simp)) fun σ H Q p => ?_
  obtain ⟨ρ, env, h, S, E, P⟩ := p
  unfold eDil1 at P
  split at P
  · rename_i j ek
    obtain ⟨v, e1, r⟩ := E.at_ i _ ek
    cases (show Rp X.K H (Mo C ρ) v (.int j) from r)
    intro q hq
    refine ⟨.int j, e1, ?_⟩
    refine ⟨by rw [sizeLine_eq]; simp, fun t ht => ⟨by rw [sizeLine_eq]; simp, fun b hb => ?_⟩⟩
    have htq : t ≠ q := fun z => by rw [z, upd_same] at ht; cases ht
    have ht0 : H t = none := by rw [upd_ne htq] at ht; exact ht
    have hbt : b ≠ t := fun z => by rw [z, upd_same] at hb; cases hb
    have hb1 : upd H q (.dK []) b = none := by rw [upd_ne hbt] at hb; exact hb
    have hbq : b ≠ q := fun z => by rw [z, upd_same] at hb1; cases hb1
    have hb0 : H b = none := by rw [upd_ne hbq] at hb1; exact hb1
    refine ⟨by rw [upd_ne (Ne.symm hbq), upd_ne (Ne.symm htq), upd_same], [(.inl k, .ref b)], rfl, by simp, ?_⟩
    have em : mergeK [] [((.inl k : Key), V.ref b)] = [(.inl k, .ref b)] := by simp [mergeK, putK]
    rw [em]
    have S1 := S.laid (o := .tup [.int c, .int j]) ht0
    have hq1 : upd H t (.tup [.int c, .int j]) q = none := by rw [upd_ne (Ne.symm htq)]; exact hq
    have S2 := S1.push (o := .dK []) (ob := .dil [] []) hq1 ⟨q, [], rfl, upd_same, (fun _ m => nomatch m), rfl, fun i b ds e _ => by simp at e⟩
    have e2 : (ρ ++ [[q]])[ρ.length]? = some [q] := by simp
    have e3 : (h ++ [.dil [] []])[ρ.length]? = some (.dil [] []) := by rw [S.len]; simp
    have hb2 : upd (upd H t (.tup [.int c, .int j])) q (.dK []) b = none := by rw [upd_ne hbq, upd_ne hbt]; exact hb0
    have hWl : C.W.length ≤ ρ.length := Nat.le_of_not_lt fun z => by
      have := S.pre ρ.length _ (List.getElem?_eq_getElem z)
      simp at this
    have nb : b ∉ (ρ ++ [[q]]).flatten := fun z => by
      obtain ⟨u, qq⟩ := S2.trk b z
      rw [hb2] at qq; cases qq
    have hH : ∀ c', c' ≠ q → c' ≠ b → upd (upd (upd (upd H q (.dK [])) t (.tup [.int c, .int j])) b (.lst [.ref t])) q (.dK [(.inl k, .ref b)]) c' = upd (upd H t (.tup [.int c, .int j])) q (.dK []) c' := fun c' h1 h2 => by
      rw [upd_ne h1, upd_ne h2, upd_ne h1]
      by_cases z : c' = t
      · rw [z, upd_same, upd_same]
      · rw [upd_ne z, upd_ne z, upd_ne h1]
    have W := S2.chg (fq := [b]) (o' := .dil [[.tuple [.int c, .int j]]] [(.inl k, 0)]) (H' := upd (upd (upd (upd H q (.dK [])) t (.tup [.int c, .int j])) b (.lst [.ref t])) q (.dK [(.inl k, .ref b)])) (.inr hWl) e2 e3 (flat_setN S2.nd e2 nb) (fun c m => by rw [List.mem_singleton.mp m]; exact hb2)
      (fun c h1 h2 => hH c (fun z => h1 (List.mem_singleton.mpr z)) fun z => h2 (List.mem_singleton.mpr z))
      (fun c m => by
        rcases List.mem_append.mp m with m | m
        · rw [List.mem_singleton.mp m]; exact ⟨_, upd_same⟩
        · rw [List.mem_singleton.mp m]; exact ⟨_, by rw [upd_ne hbq]; exact upd_same⟩)
      (fun st => by
        refine ⟨q, [b], rfl, upd_same, fun r m => by rw [List.mem_singleton.mp m]; exact Nat.zero_lt_one, rfl, fun i c' ds g1 g2 => ?_⟩
        cases i with
        | succ i => simp at g1
        | zero =>
          have g1' : b = c' := by simpa using g1
          have g2' : [PyData.tuple [.int c, .int j]] = ds := by simpa using g2
          subst g1'; subst g2'
          exact ⟨[.ref t], by rw [upd_ne hbq]; exact upd_same, .cons (((Rp.newTup S ht0 (.cons (.int c) (.cons (.int j) .nil))).stp (Stp.push hq1)).stp st) .nil⟩)
    have eh : (h ++ [Ob.dil [] []]).set ρ.length (.dil [[.tuple [.int c, .int j]]] [(.inl k, 0)]) = h ++ [.dil [[.tuple [.int c, .int j]]] [(.inl k, 0)]] := by rw [S.len]; simp
    rw [eh] at W
    refine P _ (.ref q) _ ((Ex.laid S ht0).trans ((Ex.push hq1).trans W.2)) W.1 ⟨[q] ++ [b], q, ?_, rfl, rfl⟩
    rw [← S.len, List.getElem?_set, if_pos rfl, if_pos (by simp)]
  · exact P.elim
end
section
variable {env : En} {h : Hs} {f1 f2 : Ev} {dss : List (List PyData)} {ks : List (Key × Nat)} {n i w : Nat} {k c j : Int}
@[simp] theorem v_dil1 : dil? (some (.dil dss ks)) = some (dss, ks) := id rfl
@[simp] theorem v_dilS : dilS (.loc n) h = dil? h[n]? := id rfl
def bang? {α : Type} (o : Option α) (r : Rz Sl) : Rz Sl := if o.isSome = true then r else .bad
@[simp] theorem v_bang {α : Type} {x : α} {r : Rz Sl} : bang? (some x) r = r := id rfl
@[simp] theorem v_eSetL : eSetL w f1 f2 env h = (f1 env h).bind fun s h => bang? (dilS s h) ((f2 env h).bind fun t h => setLAt w s t h) := id rfl
@[simp] theorem v_ePopL : ePopL f1 f2 env h = (f1 env h).bind fun s h => bang? (dilS s h) ((f2 env h).bind fun t h => popLAt s t h) := id rfl
theorem v_setOld (e : h[n]? = some (.dil dss ks)) (l : lookN ks (.inl k) = some i) (hl : ks.length < 16777216) : setLAt w (.loc n) (.val (.int k)) h = .ok (.inn n i) h := by
  unfold setLAt
  simp only [v_keyTi]
  rw [e, v_dil1]
  dsimp only
  rw [if_pos hl, l]
theorem v_setNew (e : h[n]? = some (.dil dss ks)) (l : lookN ks (.inl k) = none) (hl : ks.length < 16777216) (hw : w ≤ n) : setLAt w (.loc n) (.val (.int k)) h = .ok (.inn n dss.length) (h.set n (.dil (dss ++ [[]]) (ks ++ [(.inl k, dss.length)]))) := by
  unfold setLAt
  simp only [v_keyTi]
  rw [e, v_dil1]
  dsimp only
  rw [if_pos hl, l]
  dsimp only
  rw [if_pos hw]
theorem v_popOld (e : h[n]? = some (.dil dss ks)) (l : lookN ks (.inl k) = some i) : popLAt (.loc n) (.val (.int k)) h = .ok (.inn n i) (h.set n (.dil dss (dropN ks (.inl k)))) := by
  unfold popLAt
  simp only [v_keyTi]
  rw [e, v_dil1]
  dsimp only
  rw [l]
theorem v_popNone (e : h[n]? = some (.dil dss ks)) (l : lookN ks (.inl k) = none) : popLAt (.loc n) (.val (.int k)) h = .ok (.val (.list [])) h := by
  unfold popLAt
  simp only [v_keyTi]
  rw [e, v_dil1]
  dsimp only
  rw [l]
theorem v_neD (e : h[n]? = some (.dil dss ks)) : gNeD (.loc n) (.val (.dict [])) h = some (.bool (!ks.isEmpty)) := by
  unfold gNeD
  rw [v_dilS, e, v_dil1]
theorem v_appD {d : PyData} {ds : List PyData} (e : h[n]? = some (.dil dss ks)) (e2 : dss[i]? = some ds) (hl : ds.length < 16777216) : mAppD (.inn n i) [.val d] h = some (.none, h.set n (.dil (dss.set i (ds ++ [d])) ks)) := by
  unfold mAppD
  dsimp only
  rw [e, v_dil1]
  dsimp only
  rw [e2]
  dsimp only
  rw [if_pos hl]
theorem v_dilN (e : env[i]? = some (some (.val (.int j)))) : eDil1 k c i env h = .ok (.loc h.length) (h ++ [.dil [[.tuple [.int c, .int j]]] [(.inl k, 0)]]) := by
  unfold eDil1
  rw [e]
end
end FL
namespace FL
open PySem PySem.Spec PyProof.Rows L2
def compJ (t : Tg) (tt : Tv) (fe : Ev) (env : En) (n j : Nat) : Nat → Nat → List PyData → Hs → Rz (List PyData)
  | 0, _, _, _ => .bad
  | k + 1, i, acc, h => match inn? h n j with
    | none => .bad
    | some ds => match ds[i]? with
      | none => .ok acc h
      | some d => match t.put d env with
        | none => .bad
        | some e1 => match tt e1 h with
          | .ok true h => match fe e1 h with
            | .ok (.val x) h => if acc.length < 16777216 then compJ t tt fe env n j k (i + 1) (acc ++ [x]) h else .bad
            | _ => .bad
          | .ok false h => compJ t tt fe env n j k (i + 1) acc h
          | _ => .bad
def compSI (t : Tg) (tt : Tv) (fe : Ev) (env : En) (s : Sl) (h : Hs) : Rz (List PyData) := match s with
  | .inn n j => compJ t tt fe env n j 16777217 0 [] h
  | _ => .bad
def eCompI (fi : Ev) (t : Tg) (vs : List Nat) (tt : Tv) (fe : Ev) : Ev := fun env h => (fi env h).bind fun s h => (compSI t tt fe (wipeE env vs) s h).bind fun out h => .ok (.val (.list out)) h
section
variable {env : En} {h : Hs} {fi : Ev} {t : Tg} {vs : List Nat} {tt : Tv} {fe : Ev}
@[simp] theorem v_compIv : eCompI fi t vs tt fe env h = (fi env h).bind fun s h => (compSI t tt fe (wipeE env vs) s h).bind fun out h => .ok (.val (.list out)) h := id rfl
end
end FL
namespace FL
open PySem PySem.Spec PyProof.Rows L2 PySem.W
theorem lay_by {k : Nat} : ∀ {ds : List PyData}, (∀ d ∈ ds, d.canLay0 = true ∧ d.depth ≤ k) → PyData.canLayAll0 ds = true ∧ PyData.depthAll ds ≤ k
  | [], _ => by simp [PyData.canLayAll0, PyData.depthAll]
  | d :: ds, h => by
    obtain ⟨a, b⟩ := lay_by fun x m => h x (List.mem_cons_of_mem d m)
    obtain ⟨c, e⟩ := h d List.mem_cons_self
    simp [PyData.canLayAll0, PyData.depthAll, a, c]
    omega
theorem shp_listB {k : Nat} {ds : List PyData} (h : ∀ d ∈ ds, d.canLay0 = true ∧ d.depth ≤ k) (hk : k ≤ 60) : shp (.list ds) = true := by
  obtain ⟨a, b⟩ := lay_by h
  unfold shp SeqAt.shaped
  simp [PyData.canLay0, PyData.depth, a]
  omega
theorem shp_tupB {k : Nat} {ds : List PyData} (h : ∀ d ∈ ds, d.canLay0 = true ∧ d.depth ≤ k) (hk : k ≤ 60) : shp (.tuple ds) = true := by
  obtain ⟨a, b⟩ := lay_by h
  unfold shp SeqAt.shaped
  simp [PyData.canLay0, PyData.depth, a]
  omega
theorem shp_nil : shp (.list []) = true := by decide +kernel
theorem v_eqNv {ds : List PyData} {h : Hs} (hs : shp (.list ds) = true) : gEq (.val (.list ds)) (.val (.list [])) h = some (.bool ds.isEmpty) := by
  show (if eqOk (.list ds) (.list []) then some (PyData.bool (PyData.eqv (.list ds) (.list []))) else none) = _
  have e : eqOk (.list ds) (.list []) = true := by
    show (shp _ && shp _) = _
    rw [hs, shp_nil]
    rfl
  rw [if_pos e]
  cases ds <;> simp [PyData.eqv, PyData.eqvAll]
theorem v_eqNi {ds : List PyData} {n i : Nat} {h : Hs} (e : inn? h n i = some ds) (hs : shp (.list ds) = true) : gEq (.inn n i) (.val (.list [])) h = some (.bool ds.isEmpty) := by
  rw [← v_eqNv (h := h) hs]
  unfold gEq
  simp only [dat]
  rw [e]
  rfl
@[simp] theorem v_itI {n i : Nat} {h : Hs} : items (.inn n i) h = inn? h n i := id rfl
@[simp] theorem v_liI {n i : Nat} {h : Hs} : litems (.inn n i) h = inn? h n i := id rfl
theorem v_inn0 {n i : Nat} {h : Hs} {dss : List (List PyData)} (e : h[n]? = some (.lls dss)) : inn? h n i = dss[i]? := by unfold inn?; rw [e]
theorem v_inn1 {n i : Nat} {h : Hs} {dss : List (List PyData)} {ks : List (Key × Nat)} (e : h[n]? = some (.dil dss ks)) : inn? h n i = dss[i]? := by unfold inn?; rw [e]
def ixI? (o : Option Sl) (h : Hs) : Rz Sl := match o with
  | some u => .ok u h
  | none => .bad
@[simp] theorem v_ixIs {s : Sl} {h : Hs} : ixI? (some s) h = .ok s h := id rfl
@[simp] theorem v_eIxI {f g : Ev} {env : En} {h : Hs} : eIxI f g env h = (f env h).bind fun s h => (g env h).bind fun t h => ixI? (innAt s t h) h := by unfold eIxI ixI?; rfl
theorem v_innAt {k p : Nat} {h : Hs} {dss : List (List PyData)} (e : h[k]? = some (.lls dss)) (hp : p < dss.length) : innAt (.loc k) (.val (.int (p : Nat))) h = some (.inn k p) := by
  unfold innAt
  dsimp only
  rw [e]
  dsimp only
  rw [ixN_nat hp]
  rfl
theorem v_appI {n i : Nat} {h : Hs} {d : PyData} {ds : List PyData} {dss : List (List PyData)} (e : h[n]? = some (.lls dss)) (e2 : dss[i]? = some ds) (hl : ds.length < 16777216) : mAppI (.inn n i) [.val d] h = some (.none, h.set n (.lls (dss.set i (ds ++ [d])))) := by
  unfold mAppI
  dsimp only
  rw [e]
  dsimp only
  rw [e2]
  dsimp only
  rw [if_pos hl]
theorem v_appO {n : Nat} {h : Hs} {d : PyData} {ds : List PyData} (e : h[n]? = some (.lst ds)) (hl : ds.length < 16777216) : mAppend (.loc n) [.val d] h = some (.none, h.set n (.lst (ds ++ [d]))) := by
  unfold mAppend
  dsimp only
  rw [e]
  dsimp only
  rw [if_pos hl]
theorem v_expMt {m : GM} {f : Ev} {a : Av} {env : En} {h h' : Hs} {s : Sl} {ss : List Sl} {ds : List PyData} {d : PyData} (e1 : f env h = .ok s h) (e2 : litems s h = some ds) (e3 : a env h = .ok ss h) (e4 : m s ss h = some (d, h')) : sExp (eMt m f a) env h = .next env h' := by
  simp only [v_exp, v_mt, e1, v_bind, e2, e3, e4, Option.isSome_some, if_true, v_fl]
/-- .. where what is called for changes the heap -/
theorem v_expMt2 {m : GM} {f : Ev} {a : Av} {env : En} {h h1 h' : Hs} {s : Sl} {ss : List Sl} {ds : List PyData} {d : PyData} (e1 : f env h = .ok s h1) (e2 : litems s h1 = some ds) (e3 : a env h1 = .ok ss h1) (e4 : m s ss h1 = some (d, h')) : sExp (eMt m f a) env h = .next env h' := by
  simp only [v_exp, v_mt, e1, v_bind, e2, e3, e4, Option.isSome_some, if_true, v_fl]
theorem v_compE {src : En → Hs → Rz (List PyData)} {env : En} {h h1 : Hs} {ds : List PyData} (e : src env h = .ok ds h1) (hl : ds.length ≤ 16777216) : eCompE src env h = .ok (.loc h1.length) (h1 ++ [.lls (List.replicate ds.length [])]) := by
  unfold eCompE
  rw [e, v_bind, if_pos hl]
def rowsL (n : Nat) (f : Nat → List PyData) : List (List PyData) := (List.range n).map f
theorem rowsL_len {n : Nat} {f : Nat → List PyData} : (rowsL n f).length = n := by simp [rowsL]
theorem rowsL_get {n p : Nat} {f : Nat → List PyData} (h : p < n) : (rowsL n f)[p]? = some (f p) := by
  unfold rowsL
  rw [List.getElem?_map, List.getElem?_range h]
  rfl
theorem rowsL_set {n p : Nat} {f : Nat → List PyData} {v : List PyData} (h : p < n) : (rowsL n f).set p v = rowsL n fun q => if q = p then v else f q := by
  apply List.ext_getElem?
  intro q
  rw [List.getElem?_set, rowsL_len]
  by_cases e : p = q
  · subst e
    rw [if_pos rfl, if_pos h, rowsL_get h, if_pos rfl]
  · rw [if_neg e]
    by_cases q2 : q < n
    · rw [rowsL_get q2, rowsL_get q2, if_neg (fun z => e z.symm)]
    · rw [List.getElem?_eq_none (by rw [rowsL_len]; omega), List.getElem?_eq_none (by rw [rowsL_len]; omega)]
theorem rowsL_rep {n : Nat} : List.replicate n ([] : List PyData) = rowsL n fun _ => [] := by
  apply List.ext_getElem?
  intro q
  by_cases h : q < n
  · rw [rowsL_get h, List.getElem?_replicate, if_pos h]
  · rw [List.getElem?_eq_none (by simp; omega), List.getElem?_eq_none (by rw [rowsL_len]; omega)]
end FL
namespace FL
open PySem PySem.Spec PyProof.Rows L2 PySem.W
/-- *a, b = value -/
def sStar (i j : Nat) (f : Ev) : Sv := fun env h => (f env h).fl env fun s h => match s with
  | .val (.list ds) => match ds.getLast? with
    | some d => .next ((env.set i (some (.val (.list ds.dropLast)))).set j (some (.val d))) h
    | none => .bad
  | _ => .bad
@[simp] theorem v_star {i j : Nat} {f : Ev} {env : En} {h h1 : Hs} {ds : List PyData} {d : PyData} (e : f env h = .ok (.val (.list (ds ++ [d]))) h1) : sStar i j f env h = .next ((env.set i (some (.val (.list ds)))).set j (some (.val d))) h1 := by
  unfold sStar
  rw [e, v_fl]
  simp
end FL
namespace FL
open PySem PySem.Spec PyProof.Rows L2 PySem.W
def callAN (m : Fm) (io : List Bool) (sh : Shp) (ss ts : List Sl) (h : Hs) : Rz Sl := if ss.length = sh.1 ∧ ts.length = sh.2.1.length then callN m io (sh.2.2.map (arS (ss ++ ts))) h else .bad
def eCallAN (m : Fm) (io : List Bool) (sh : Shp) (fa fk : Av) : Ev := fun env h => (fa env h).bind fun ss h => (fk env h).bind fun ts h => callAN m io sh ss ts h
@[simp] theorem v_callAN {m : Fm} {io : List Bool} {sh : Shp} {fa fk : Av} {env : En} {h : Hs} : eCallAN m io sh fa fk env h = (fa env h).bind fun ss h => (fk env h).bind fun ts h => callAN m io sh ss ts h := id rfl
end FL
namespace FL
open PySem PySem.Spec PyProof.Rows L2 PySem.W
abbrev Kf := En → Hs → Rz (List Int)
abbrev relKy (C : Fc) : Fps → Hp → V → List Int → Prop := fun ρ H v k => ∃ b, v = .ref b ∧ H b = some (.tup (k.map V.int)) ∧ ¬ Mo C ρ b
abbrev FKy (X : Cx) (C : Fc) (Wx : WX) (e : Expr) (f : Kf) : Prop := PE X e (rd X.K X.mg C Wx (relKy C) f)
theorem kv_int (k : List Int) : (k.map (Sum.inl : Int → Key)).map kV = k.map V.int := by rw [List.map_map]; rfl
theorem rp_intsK {K : PySem.W.Frag} {H : Hp} {M : Ms} : ∀ {vs : List V} {ds : List PyData} {k : List Int}, RpAll K H M vs ds → ints? ds = some k → vs = k.map V.int
  | _, _, _, .nil, e => by cases e; rfl
  | _, _, _, .cons (d := d) r t, e => by
    cases d with
    | int i =>
      have e' : (ints? _).map (i :: ·) = some _ := e
      obtain ⟨k', e1, e2⟩ := Option.map_eq_some_iff.mp e'
      subst e2
      cases r
      rw [rp_intsK t e1]
      rfl
    | _ => cases e
/-- x[lo:hi] of a tuple of whole numbers, not the whole of it -/
def key? (s : Sl) (lo hi : Option Int) : Option (List Int) := match s with
  | .val (.tuple ds) => if HT.sIx ds.length 0 lo = 0 ∧ HT.sIx ds.length ds.length hi = ds.length then none else ints? (cutD ds lo hi)
  | _ => none
def eKey (f : Ev) (fl fh : En → Hs → Rz (Option Int)) : Kf := fun env h => (f env h).bind fun s h => (fl env h).bind fun l h => (fh env h).bind fun u h => match key? s l u with
  | some k => .ok k h
  | none => .bad
section
variable {X : Cx} {C : Fc} {Wx : WX}
def rKey (K : PySem.W.Frag) (C : Fc) : V → Option Int → Option Int → Hp → VK → Prop := fun x lo hi H Q => ∃ ρ h s k, SimH K C ρ h H ∧ SlV K C ρ H x s ∧ key? s lo hi = some k ∧
  ∀ v H', Ex C ρ H ρ H' → SimH K C ρ h H' → relKy C ρ H' v k → Q v H'
theorem s_key : SlR X (rKey X.K C) := by
  intro pins s σ H x v vl vu lo hi sl Q I rx hs pl pu q
  refine sl_tupA pins s σ H x v vl vu lo hi sl Q I rx hs pl pu ?_
  obtain ⟨ρ, h, a, k, S, r, e, w⟩ := q
  unfold key? at e
  split at e
  · rename_i ds
    split at e
    · cases e
    · rename_i hw
      cases (show Rp X.K H (Mo C ρ) x (.tuple ds) from r) with
      | tup q ra =>
        refine ⟨_, _, rfl, q.sq, fun y => absurd (by rw [ra.length] at y; exact y) hw, fun y p hp => w _ _ (Ex.laid S hp) (S.laid hp) ⟨p, rfl, ?_, fun m => ?_⟩⟩
        · rw [upd_same, rp_intsK (cut_rel ra) e]
        · rcases m with m | m
          · obtain ⟨o, eo⟩ := S.trk p m
            rw [hp] at eo; cases eo
          · obtain ⟨_, o, eo⟩ := S.bar p m
            rw [hp] at eo; cases eo
  · cases e
theorem fk_slice {e : Expr} {f : Ev} {lo hi : Option Expr} {fl fh : En → Hs → Rz (Option Int)} {pos p2 : Pos} (he : FE X C Wx e f) (hl : FO X C Wx lo fl) (hu : FO X C Wx hi fh) : FKy X C Wx (.Subscript e (.Slice lo hi none p2) pos) (eKey f fl fh) :=
  PE.imp (pe_slice s_key he hl hu) fun σ H Q p => by
    refine rd.bind (f := f) (g := fun s env h => (fl env h).bind fun l h => (fh env h).bind fun u h => match key? s l u with
      | some k => .ok k h
      | none => .bad) p fun ρ1 env h1 s x H1 S1 E1 r1 P1 => ?_
    refine rd.of S1 E1 (Po.bind (r := fl env h1) P1 fun ρ2 h2 l y H2 _ x2 S2 r2 P2 => ?_)
    have e2 : y = l := r2
    subst e2
    refine rd.of S2 (E1.ex x2) (Po.bind (r := fh env h2) P2 fun ρ3 h3 u z H3 _ x3 S3 r3 P3 => ?_)
    have e3 : z = u := r3
    subst e3
    split at P3
    · rename_i k ek
      exact ⟨ρ3, h3, s, k, S3, SlV.ex (x2.trans x3) r1, ek, fun v H' x4 S4 r4 => P3 ρ3 v H' x4 S4 r4⟩
    · exact P3.elim
end
def ktD (ks : List (List Int)) : List (List Key × V) := ks.map fun k => (k.map Sum.inl, V.bl true)
theorem inl_inj {a b : List Int} (h : a.map (Sum.inl : Int → Key) = b.map Sum.inl) : a = b := (List.map_inj_right fun x y e => Sum.inl.inj e).mp h
theorem nt_dT {xs : List (List Key × V)} : NT (.dT xs) := fun _ z => nomatch z
section
variable {K : PySem.W.Frag} {mg : Str → Option Value} {C : Fc} {Wx : WX} {σ : St}
structure DMid (K : PySem.W.Frag) (C : Fc) (D : Addr) (ρ1 : Fps) (H1 : Hp) (acc : List (List Int)) (ρ : Fps) (h : Hs) (H : Hp) : Prop where
  S : SimH K (C.plus D) ρ h H
  st : Stp (Mo C ρ1) H1 (Mo (C.plus D) ρ) H
  root : ∀ (n : Nat) (fp : List Addr), ρ1[n]? = some fp → ∃ fp' : List Addr, ρ[n]? = some fp' ∧ fp <+: fp'
  at_ : H D = some (.dT (ktD acc))
theorem DMid.ex {D : Addr} {ρ1 ρ : Fps} {H1 H : Hp} {acc : List (List Int)} {h : Hs} (M : DMid K C D ρ1 H1 acc ρ h H) : Ex C ρ1 H1 ρ H :=
  ⟨⟨M.st.keepK, fun b m => M.st.new b (Mo.unplus m)⟩, M.root⟩
theorem DMid.step {D : Addr} {ρ1 ρ ρ2 : Fps} {H1 H H2 : Hp} {acc : List (List Int)} {h h2 : Hs} (M : DMid K C D ρ1 H1 acc ρ h H) (S2 : SimH K ((C.plus D).sub ρ H) ρ2 h2 H2) (x : Ex ((C.plus D).sub ρ H) ρ H ρ2 H2) :
    DMid K C D ρ1 H1 acc ρ2 h2 H2 ∧ Ex (C.plus D) ρ H ρ2 H2 := by
  have x' : Ex (C.plus D) ρ H ρ2 H2 := Ex.cong (C := (C.plus D).sub ρ H) (C' := C.plus D) rfl x
  refine ⟨⟨M.S.backW S2, M.st.trans x'.stp, fun n fp e => ?_, S2.fr M.at_ (M.S.bar D (.inr rfl)).1 nt_dT⟩, x'⟩
  obtain ⟨fp1, e1, q1⟩ := M.root n fp e
  obtain ⟨fp2, e2, q2⟩ := x'.root n fp1 e1
  exact ⟨fp2, e2, q1.trans q2⟩
/-- one item more is walked -/
theorem DMid.next {D : Addr} {ρ1 ρ : Fps} {H1 H H' H0 : Hp} {acc : List (List Int)} {h : Hs} {J : It} {ds : List PyData} {M0 : Ms} {i : Nat} {d : PyData} {x : V} (M : DMid K C D ρ1 H1 acc ρ h H) (G : Gvs K J ds M0 H0) (st : Stp M0 H0 (Mo (C.plus D) ρ) H) (e : ds[i]? = some d) (y : J.yld i H x H') :
    DMid K C D ρ1 H1 acc ρ h H' ∧ Ex (C.plus D) ρ H ρ H' ∧ Rp K H' (Mo (C.plus D) ρ) x d := by
  obtain ⟨S3, x3, r3⟩ := G.step (C := C.plus D) st M.S e y
  refine ⟨⟨S3, M.st.trans x3.stp, M.root, ?_⟩, x3, r3⟩
  rcases G.yld _ H i d x H' st e y with ⟨rfl, _⟩ | ⟨T, ws, es, hT, rfl, _⟩ | ⟨rfl, _⟩
  · exact M.at_
  · rw [upd_ne (ne_of_none M.at_ hT)]; exact M.at_
  · exact M.at_
end
end FL
namespace FL
open PySem PySem.Spec PyProof.Rows L2 PySem.W
def tupI (k : List Int) : PyData := .tuple (k.map .int)
section
variable {prog : Program} {w : World} {A : Around} {E : Value → Shared → Prop} {s : Shared}
def IsTp (h : Heap) (v : Value) : Prop := ∃ (l : Addr) (o : Obj) (xs : Array Value) (n : Nat), v = .ref l ∧ h.get? l = some o ∧ o.cls = .type "tuple" ∧ o.data = .seq xs n
theorem firsts_any : ∀ (vs : List Value) {Q : List (Option Value) → Shared → Prop}, (∀ v ∈ vs, IsTp s.heap v) → (∀ fs, Q fs s) → wpAny (model prog w) A (vs.mapM firstOfTuple') Q E s
  | [], Q, _, q => by rw [List.mapM_nil]; exact wpAny_pure (q _)
  | v :: vs, Q, hv, q => by
    obtain ⟨l, o, xs, n, rfl, ho, hc, hd⟩ := hv _ List.mem_cons_self
    rw [List.mapM_cons, kas_first_eq]
    refine wpAny_bind (wpAny_bind (Looks.here (show Looks (model prog w) s.heap (typeOf (.ref l)) o.cls from (Looks.ld ho).andThen .now) ?_))
    rw [hc, if_neg (by simp)]
    refine wpAny_bind (listItems_at ho hd (wpAny_pure (wpAny_bind (firsts_any vs (fun x m => hv x (List.mem_cons_of_mem _ m)) fun fs => wpAny_pure (q _)))))
theorem kind_nil {v0 v1 : Value} {rest : List Value} {Q : SortKind → Shared → Prop} {l : Addr} {o : Obj} {n : Nat} (e0 : v0 = .ref l) (ho : s.heap.get? l = some o) (hc : o.cls = .type "tuple") (hd : o.data = .seq #[] n) (hv : ∀ v ∈ v0 :: v1 :: rest, IsTp s.heap v) (q : Q oneType' s) :
    wpAny (model prog w) A (keyKind' (v0 :: v1 :: rest).toArray) Q E s := by
  have hT : ∀ v ∈ v0 :: v1 :: rest, Looks (model prog w) s.heap (typeOf v) (.type "tuple") := fun v m => by
    obtain ⟨l, o, xs, n, rfl, ho, hc, hd⟩ := hv v m
    rw [← hc]
    exact (Looks.ld ho).andThen .now
  rw [keyKind'_eq, List.mapM_toArray, map_eq_pure_bind, List.mapM_cons, kas_first_eq]
  subst e0
  refine wpAny_bind (wpAny_bind (wpAny_bind (wpAny_bind ((hT _ List.mem_cons_self).here ?_))))
  rw [if_neg (by simp)]
  refine wpAny_bind (listItems_at ho hd (wpAny_pure (wpAny_bind (firsts_any (v1 :: rest) (fun x m => hv x (List.mem_cons_of_mem _ m)) fun fs => wpAny_pure (wpAny_pure ?_)))))
  rw [if_neg (by simp), if_neg (by simp), oneTypeOnly'_eq, List.mapM_toArray, map_eq_pure_bind]
  refine wpAny_bind (wpAny_bind (wpAny_bind (kas_mapM (r := Value.type "tuple") _ (fun v m Q' hq => (hT v m).here hq) (wpAny_pure ?_))))
  have hall : ((List.map (fun _ => Value.type "tuple") (Value.ref l :: v1 :: rest)).toArray.all fun x => x == Value.type "tuple") = true := by
    simp only [List.all_toArray, List.all_map, List.all_eq_true]
    intro _ _
    rfl
  have h0 : (List.map (fun _ => Value.type "tuple") (Value.ref l :: v1 :: rest)).toArray[0]? = some (Value.type "tuple") := by simp
  rw [h0]
  simp only [hall, if_true]
  exact wpAny_pure (wpAny_pure q)
theorem oneLt_tups {xs ys : List PyData} {a b : Value} {as bs : List Addr} {Q : Bool → Shared → Prop} (ra : Reads s.heap a (.tuple xs) as) (rb : Reads s.heap b (.tuple ys) bs) (hal : alikeAll xs ys = true) (hu : A.units + min (PyData.tuple xs).depth (PyData.tuple ys).depth < cLine) (hq : Q (dataLt (.tuple xs) (.tuple ys)) s) :
    wpAny (model prog w) A (oneLt' true a b) Q E s := by
  cases ra with
  | @tuple l o vs n _ as1 h1 h2 h3 h4 =>
    cases rb with
    | @tuple l' o' vs' n' _ bs1 k1 k2 k3 k4 =>
      have n1 : vs.size = xs.length := by simpa using SeqAt.ReadsAll.length _ _ _ h4
      have n2 : vs'.size = ys.length := by simpa using SeqAt.ReadsAll.length _ _ _ k4
      obtain ⟨cls, dd, data, sl⟩ := o
      obtain ⟨cls2, dd2, data2, sl2⟩ := o'
      simp only at h2 h3 k2 k3
      subst h2 h3 k2 k3
      rw [dataLt_tuple, ← firstLt_toks xs ys hal, ← n1, ← n2] at hq
      rw [oneLt'_eq]
      simp only [if_true]
      refine wpAny_bind (wpAny_cRoomFor (SeqAt.room_here hu) ?_)
      refine wpAny_bind (wpAny_callSpecialIfBound?_slot (T := "tuple") ⟨_, h1, rfl⟩ PySem.F.slot_tuple_lt (call_meets PySem.F.slot_tuple_lt ⟨_, h1, rfl⟩ PySem.F.entry_tuple_lt (PySem.F.args_tuple_lt_2 _ _) (SeqAt.tuple_ltAt l l' vs vs' n n' dd dd2 sl sl2 (SeqAt.pairEq xs ys) fun j => dataLt (xs.getD j .none) (ys.getD j .none)) ⟨h1, k1, fun j j1 j2 => ?_, fun j j1 j2 hj => ?_, ?_⟩))
      · have := eqAt_alikeAll xs ys A.in1 s vs.toList vs'.toList _ _ h4 k4 hal (SeqAt.room_in hu) j (by simpa using j1) (by simpa using j2)
        simpa using this
      · have := rcLt_alikeAll xs ys A.in1 s vs.toList vs'.toList _ _ h4 k4 hal (SeqAt.room_in hu) j (by simpa using j1) (by simpa using j2) hj
        simpa using this
      · exact wpAny_truthy_bool hq
end
end FL
namespace FL
open PySem PySem.Spec PyProof.Rows L2 PySem.W
section
variable {prog : Program} {w : World} {A : Around} {E : Value → Shared → Prop} {s : Shared}
theorem reads_tp {h : Heap} {v : Value} {xs : List PyData} {as : List Addr} (r : Reads h v (.tuple xs) as) : IsTp h v := by
  cases r with
  | @tuple l o vs n _ as1 h1 h2 h3 h4 => exact ⟨l, o, vs, n, rfl, h1, h2, h3⟩
theorem sorts_nil {vs : List Value} {ds : List PyData} (e : EachIs (fun v d => ∃ as, Reads s.heap v d as) vs (.tuple [] :: ds)) (hal : AllAlike (.tuple [] :: ds)) (ht : ∀ d ∈ ds, ∃ xs, d = .tuple xs) (hu : ∀ d, d ∈ PyData.tuple [] :: ds → A.units + d.depth < cLine) : SortsAt prog w A s (dataKind s.heap (.tuple [] :: ds)) vs := by
  have ht' : ∀ d ∈ PyData.tuple [] :: ds, ∃ xs, d = .tuple xs := fun d m => by
    rcases List.mem_cons.mp m with rfl | m
    · exact ⟨_, rfl⟩
    · exact ht d m
  refine ⟨fun v m => ?_, oneType', ?_, fun h2 E Q q => ?_⟩
  · obtain ⟨d, hd, as, r⟩ := e.left v m
    exact ⟨_, dataKind_some hal hd r⟩
  · intro E x y a b Q ha hb hq
    obtain ⟨d, as, hd, ra, rfl⟩ := dataKind_inv ha
    obtain ⟨d', as', hd', rb, rfl⟩ := dataKind_inv hb
    obtain ⟨xs, rfl⟩ := ht' d hd
    obtain ⟨ys, rfl⟩ := ht' d' hd'
    rw [keyLt'_oneType]
    exact oneLt_tups ra rb (by simpa [alike] using hal _ hd _ hd') (Nat.lt_of_le_of_lt (Nat.add_le_add_left (Nat.min_le_left _ _) _) (hu _ hd)) hq
  · cases e with
    | @cons v0 _ vs0 _ r0 t =>
      obtain ⟨as0, r0⟩ := r0
      cases vs0 with
      | nil => simp at h2
      | cons v1 rest =>
        have hv : ∀ v ∈ v0 :: v1 :: rest, IsTp s.heap v := fun v m => by
          obtain ⟨d, hd, as, r⟩ := (EachIs.cons ⟨as0, r0⟩ t : EachIs (fun v d => ∃ as, Reads s.heap v d as) (v0 :: v1 :: rest) (.tuple [] :: ds)).left v m
          obtain ⟨xs, rfl⟩ := ht' d hd
          exact reads_tp r
        cases r0 with
        | @tuple l o vs n _ as1 h1 hc h3 h4 =>
          have ev : vs = #[] := by
            cases q : vs.toList with
            | nil => exact Array.toList_eq_nil_iff.mp q
            | cons a b => rw [q] at h4; cases h4
          subst ev
          exact kind_nil rfl h1 hc h3 hv q
end
/-- a call of a builtin whose list is the def's own -/
def eCBN (g : List Sl → Hs → Option (List PyData)) (f : Av) : Ev := fun env h => (f env h).bind fun ss h => match g ss h with
  | some ds => .ok (.loc h.length) (h ++ [.lst ds])
  | none => .bad
@[simp] theorem v_eCBN {g : List Sl → Hs → Option (List PyData)} {f : Av} {env : En} {h : Hs} : eCBN g f env h = (f env h).bind fun ss h => match g ss h with
  | some ds => .ok (.loc h.length) (h ++ [.lst ds])
  | none => .bad := id rfl
end FL
namespace FL
open PySem PySem.Spec PyProof.Rows L2 PySem.W
def ltB (a b : PyData) : Bool := alike a b && decide (a.depth ≤ 60) && !a.hasDict && !b.hasDict
def gLtX : Sl → Sl → Hs → Option PyData := fun s t h => match s, t with
  | .val (.int i), .val (.int j) => some (.bool (decide (i < j)))
  | .val (.tuple xs), .val (.tuple ys) => if ltB (.tuple xs) (.tuple ys) = true then some (.bool (dataLt (.tuple xs) (.tuple ys))) else none
  | _, _ => none
@[simp] theorem v_ltXi {i j : Int} {h : Hs} : gLtX (.val (.int i)) (.val (.int j)) h = some (.bool (decide (i < j))) := id rfl
def eTp0 : Ev := fun _ h => .ok (.loc h.length) (h ++ [.dtp [[]]])
def eTpN : Ev := fun _ h => .ok (.loc h.length) (h ++ [.dtp []])
@[simp] theorem v_tp0 {env : En} {h : Hs} : eTp0 env h = .ok (.loc h.length) (h ++ [.dtp [[]]]) := id rfl
@[simp] theorem v_tpN {env : En} {h : Hs} : eTpN env h = .ok (.loc h.length) (h ++ [.dtp []]) := id rfl
end FL
namespace FL
open PySem PySem.Spec PyProof.Rows L2
/-- what stood at two places stands there still -/
def Ks (i l : Addr) (h h' : Heap) : Prop := ∀ c, c = i ∨ c = l → ∀ o, h.get? c = some o → h'.get? c = some o
theorem Ks.trans {i l : Addr} {h h' h'' : Heap} (a : Ks i l h h') (b : Ks i l h' h'') : Ks i l h h'' := fun c m o e => b c m o (a c m o e)
def zipM? (ss : List Sl) (h : Hs) : Rz (List PyData) := match ss with
  | [.val (.tuple ds), .val (.list es)] => .ok (zipD ds es) h
  | _ => .bad
def srcZipM (f : Av) : En → Hs → Rz (List PyData) := fun env h => (f env h).bind fun ss h => zipM? ss h
@[simp] theorem v_zipM {ds es : List PyData} {h : Hs} : zipM? [.val (.tuple ds), .val (.list es)] h = .ok (zipD ds es) h := id rfl
@[simp] theorem v_srcZipM {f : Av} {env : En} {h : Hs} : srcZipM f env h = (f env h).bind fun ss h => zipM? ss h := id rfl
end FL
namespace FL
open PySem PySem.Spec PyProof.Rows L2
def lkE : List (G2 × Ev) → Sl → Tv
  | [], _ => fun _ h => .ok true h
  | (g, f) :: l, s => fun env h => (f env h).bind fun t h => match g s t h with
    | some (.bool true) => lkE l t env h
    | some (.bool false) => .ok false h
    | _ => .bad
def tLk (f : Ev) (l : List (G2 × Ev)) : Tv := fun env h => (f env h).bind fun s h => lkE l s env h
section
variable {env : En} {h : Hs} {f : Ev} {l : List (G2 × Ev)} {s : Sl}
def lk? (o : Option PyData) (r : Rz Bool) (h : Hs) : Rz Bool := match o with
  | some (.bool true) => r
  | some (.bool false) => .ok false h
  | _ => .bad
@[simp] theorem v_tLk : tLk f l env h = (f env h).bind fun s h => lkE l s env h := id rfl
@[simp] theorem v_lk0 : lkE [] s env h = .ok true h := id rfl
@[simp] theorem v_lk1 {g : G2} : lkE ((g, f) :: l) s env h = (f env h).bind fun t h => lk? (g s t h) (lkE l t env h) h := id rfl
@[simp] theorem v_lkB {k : Bool} {r : Rz Bool} : lk? (some (.bool k)) r h = if k = true then r else .ok false h := by cases k <;> rfl
end
@[simp] theorem call7 {m : Fm} {fr : Bool} {h : Hs} {x1 x2 x3 x4 x5 x6 x7 : PyData} {z : PyData} (e : m [x1, x2, x3, x4, x5, x6, x7] [] = .ok z []) : callF m [false, false, false, false, false, false, false] fr [.val x1, .val x2, .val x3, .val x4, .val x5, .val x6, .val x7] h = .ok (.val z) h := call_d rfl rfl e
end FL
namespace FL
open PySem PySem.Spec PyProof.Rows L2
def putT : List Tg → List Sl → En → Option En
  | [], [], env => some env
  | .nm i :: ts, s :: ss, env => putT ts ss (env.set i (some s))
  | .tp us :: ts, .val d :: ss, env => match Tg.put (.tp us) d env with
    | some e => putT ts ss e
    | none => none
  | _, _, _ => none
def parT? (ts : List Tg) (ss : List Sl) (env : En) (h : Hs) : Fl := match putT ts ss env with
  | some e => if ss.length ≤ 16777216 then .next e h else .bad
  | none => .bad
def sParT (ts : List Tg) (f : Av) : Sv := fun env h => (f env h).fl env fun ss h => parT? ts ss env h
theorem putT_len : ∀ {ts : List Tg} {ss : List Sl} {env env' : En}, putT ts ss env = some env' → ss.length = ts.length
  | [], [], _, _, _ => rfl
  | .nm i :: ts, s :: ss, env, env', e => by
    have e' : putT ts ss (env.set i (some s)) = some env' := by simpa [putT] using e
    simp [putT_len e']
  | .tp us :: ts, .val d :: ss, env, env', e => by
    cases q : Tg.put (.tp us) d env with
    | none => simp [putT, q] at e
    | some e1 =>
      have e' : putT ts ss e1 = some env' := by simpa [putT, q] using e
      simp [putT_len e']
  | [], _ :: _, _, _, e => by simp [putT] at e
  | .nm _ :: _, [], _, _, e => by simp [putT] at e
  | .tp _ :: _, [], _, _, e => by simp [putT] at e
  | .tp _ :: _, .loc _ :: _, _, _, e => by simp [putT] at e
  | .tp _ :: _, .inn _ _ :: _, _, _, e => by simp [putT] at e
  | .tp _ :: _, .exn _ :: _, _, _, e => by simp [putT] at e
theorem rds_put {K : PySem.W.Frag} {C : Fc} {ρ : Fps} {H : Hp} : ∀ {ts : List Tg} {ss : List Sl} {vs : List V} {env env' : En} {σ : St} {Q : St → Hp → Prop}, SlVs K C ρ H vs ss → putT ts ss env = some env' → EnvOk K C ρ H env σ → (∀ σ', EnvOk K C ρ H env' σ' → Q σ' H) → Tg.rds K ts vs σ H Q
  | [], [], _, env, env', σ, Q, r, e, E, k => by
    cases r
    have e' : some env = some env' := by simpa [putT] using e
    cases e'
    exact ⟨rfl, k σ E⟩
  | .nm i :: ts, s :: ss, _, env, env', σ, Q, .cons h t, e, E, k => by
    have e' : putT ts ss (env.set i (some s)) = some env' := by simpa [putT] using e
    rw [Tg.rds]
    refine ⟨_, _, rfl, ?_⟩
    rw [Tg.rd]
    exact rds_put t e' (E.set h i) k
  | .tp us :: ts, .val d :: ss, _, env, env', σ, Q, .cons h t, e, E, k => by
    cases q : Tg.put (.tp us) d env with
    | none => simp [putT, q] at e
    | some e1 =>
      have e' : putT ts ss e1 = some env' := by simpa [putT, q] using e
      rw [Tg.rds]
      refine ⟨_, _, rfl, ?_⟩
      exact Tg.ok (M := Mo C ρ) (.tp us) _ d σ env e1 _ h q fun σ1 p1 => rds_put t e' (p1.env C ρ rfl E) k
  | [], _ :: _, _, _, _, _, _, _, e, _, _ => by simp [putT] at e
  | .nm _ :: _, [], _, _, _, _, _, _, e, _, _ => by simp [putT] at e
  | .tp _ :: _, [], _, _, _, _, _, _, e, _, _ => by simp [putT] at e
  | .tp _ :: _, .loc _ :: _, _, _, _, _, _, _, e, _, _ => by simp [putT] at e
  | .tp _ :: _, .inn _ _ :: _, _, _, _, _, _, _, e, _, _ => by simp [putT] at e
  | .tp _ :: _, .exn _ :: _, _, _, _, _, _, _, e, _, _ => by simp [putT] at e
section
variable {X : Cx} {C : Fc} {Wx : WX} {tg : Expr} {es : List Expr} {fa : Av} {pos : Pos} {kt : Nat} {ts : List Tg}
theorem fs_parT {p2 : Pos} (ha : FA X C Wx es fa) (hg : FG X tg (.tp ts)) (hs : swapsWithSole [tg] (.Tuple es kt p2) pos.line X.env = pure false := by rfl) (hw : swappedStores [tg] (.Tuple es kt p2) X.env = pure none := by rfl)
    (h1 : (assignEach [tg] X.env).map (·.2) = [assign tg X.env] := by rfl) : FS X C Wx (.Assign [tg] (.Tuple es kt p2) pos) (sParT ts fa) := PS.imp (ps_asg (pe_tup ha) hg hs hw h1) fun D σ H p => by
  refine rdS.bind (f := fa) (g := fun ss env h => parT? ts ss env h) p fun ρ1 env h1 ss vs H1 S1 E1 r1 P1 => ?_
  unfold parT? at P1
  cases q : putT ts ss env with
  | none => rw [q] at P1; exact P1.elim
  | some e1 =>
    rw [q] at P1
    dsimp only at P1
    split at P1
    · rename_i hl
      refine ⟨by rw [r1.len, sizeLine_eq]; exact hl, fun a ha => ?_⟩
      rw [Tg.rd]
      have x1 : Ex C ρ1 H1 ρ1 (upd H1 a (.tup vs)) := Ex.laid S1 ha
      refine ⟨a, vs, rfl, .inl (.inl upd_same), r1.len.trans (putT_len q), rds_put (SlVs.exs x1 r1) q (E1.ex x1) fun σ' E' => ?_⟩
      exact P1 ρ1 _ _ x1.stp (S1.laid ha) E'
    · exact P1.elim
end
section
variable {env : En} {h : Hs} {fa : Av} {ts : List Tg} {ss : List Sl}
@[simp] theorem v_parT : sParT ts fa env h = (fa env h).fl env fun ss h => parT? ts ss env h := id rfl
theorem parT_of {e : En} (h1 : putT ts ss env = some e) (h2 : ss.length ≤ 100) : parT? ts ss env h = .next e h := by
  unfold parT?
  rw [h1]
  dsimp only
  rw [if_pos (by omega)]
@[simp] theorem v_putT0 : putT [] [] env = some env := id rfl
@[simp] theorem v_putT1 {i : Nat} {s : Sl} : putT (.nm i :: ts) (s :: ss) env = putT ts ss (env.set i (some s)) := id rfl
end
end FL
namespace FL
open PySem PySem.Spec PyProof.Rows L2
section
variable {X : Cx} {C : Fc}
def gIsX : G2 := fun s t h => match s, t with
  | .val (.bool a), .val (.bool b) => some (.bool (decide (a = b)))
  | s, t => gIsN s t h
end
@[simp] theorem v_isXB {a b : Bool} {h : Hs} : gIsX (.val (.bool a)) (.val (.bool b)) h = some (.bool (decide (a = b))) := id rfl
end FL
namespace FL
open PySem PySem.Spec PyProof.Rows L2
def eSaidL (tup : Bool) (R : List Str) (mw : Exn → Option PyData) (fe : Ev) : Ev := fun env h => match fe env h with
  | .ok (.val d) h' => .ok (.val (.list [d])) h'
  | .err x h' => if R.contains x.cls && x.fs.isEmpty then (match mw x with
    | some d => .ok (.val (if tup then .tuple [d] else d)) h'
    | none => .bad) else .bad
  | _ => .bad
def saidL? (tup : Bool) (R : List Str) (mw : Exn → Option PyData) (r : Rz Sl) : Rz Sl := match r with
  | .ok (.val d) h' => .ok (.val (.list [d])) h'
  | .err x h' => if R.contains x.cls && x.fs.isEmpty then (match mw x with
    | some d => .ok (.val (if tup then .tuple [d] else d)) h'
    | none => .bad) else .bad
  | _ => .bad
@[simp] theorem v_saidL2 {tup : Bool} {R : List Str} {mw : Exn → Option PyData} {fe : Ev} {env : En} {h : Hs} : eSaidL tup R mw fe env h = saidL? tup R mw (fe env h) := by unfold eSaidL saidL?; rfl
end FL
namespace FL
open PySem PySem.Spec PyProof.Rows L2 PySem.W
def MkG (m : Nat) : Prop := m = 7 ∨ m = 31 ∨ m = 127 ∨ m = 511 ∨ m = 2047
def orb (m : Nat) : Nat → Nat → Nat → Nat
  | 0, _, acc => acc
  | n + 1, x, acc => orb m n ((x * 5 + 1) % (m + 1)) (acc ||| (1 <<< x))
theorem lcgI_shift (m : Nat) : ∀ (k x : Nat), lcgI m ((x * 5 + 1) % (m + 1)) k = lcgI m x (k + 1)
  | 0, _ => rfl
  | k + 1, x => by
    show (lcgI m ((x * 5 + 1) % (m + 1)) k * 5 + 1) % (m + 1) = _
    rw [lcgI_shift m k x]
    rfl
theorem orb_bit (m : Nat) {j : Nat} : ∀ (n x acc : Nat), (orb m n x acc).testBit j = true → acc.testBit j = true ∨ ∃ k, k < n ∧ lcgI m x k = j
  | 0, _, _, h => .inl h
  | n + 1, x, acc, h => by
    rcases orb_bit m n _ _ h with z | ⟨k, hk, e⟩
    · rw [Nat.testBit_or, Bool.or_eq_true] at z
      rcases z with z | z
      · exact .inl z
      · refine .inr ⟨0, by omega, ?_⟩
        rw [Nat.one_shiftLeft, Nat.testBit_two_pow] at z
        exact of_decide_eq_true z
    · rw [lcgI_shift] at e
      exact .inr ⟨k + 1, by omega, e⟩
theorem orb_full {m : Nat} (h : orb m (m + 1) 0 0 = 2 ^ (m + 1) - 1) {j : Nat} (hj : j ≤ m) : ∃ k, k ≤ m ∧ lcgI m 0 k = j := by
  have t : (orb m (m + 1) 0 0).testBit j = true := by
    rw [h, Nat.testBit_two_pow_sub_one]
    exact decide_eq_true (by omega)
  rcases orb_bit m _ _ _ t with z | ⟨k, hk, e⟩
  · simp at z
  · exact ⟨k, by omega, e⟩
theorem mk_orb {m : Nat} (h : MkG m) : orb m (m + 1) 0 0 = 2 ^ (m + 1) - 1 := by
  rcases h with rfl | rfl | rfl | rfl | rfl <;> decide +kernel
theorem mk_round {m : Nat} (h : MkG m) : lcgI m 0 (m + 1) = 0 := by
  rcases h with rfl | rfl | rfl | rfl | rfl <;> decide +kernel
theorem lcgI_plus (m x : Nat) (a : Nat) : ∀ k, lcgI m (lcgI m x a) k = lcgI m x (a + k)
  | 0 => rfl
  | k + 1 => by
    show (lcgI m (lcgI m x a) k * 5 + 1) % (m + 1) = _
    rw [lcgI_plus m x a k]
    rfl
/-- from wherever a way begins, each slot is come to -/
theorem mk_meet {m i j : Nat} (h : MkG m) (hi : i ≤ m) (hj : j ≤ m) : ∃ k, k ≤ m ∧ lcgI m i k = j := by
  obtain ⟨a, ha, ea⟩ := orb_full (mk_orb h) hi
  obtain ⟨b, hb, eb⟩ := orb_full (mk_orb h) hj
  by_cases c : a ≤ b
  · refine ⟨b - a, by omega, ?_⟩
    rw [← ea, lcgI_plus, Nat.add_sub_cancel' c, eb]
  · refine ⟨m + 1 + b - a, by omega, ?_⟩
    have q := lcgI_plus m 0 (m + 1) b
    rw [mk_round h, eb] at q
    rw [← ea, lcgI_plus, show a + (m + 1 + b - a) = m + 1 + b by omega, ← q]
theorem run_meet {m : Nat} (hm : MkG m) (h : Int) {j : Nat} (hj : j ≤ m) : ∃ n, n ≤ m + 12 ∧ runI m (SetTable.bits h) n = j := by
  obtain ⟨k, hk, e⟩ := mk_meet hm (runI_le m (SetTable.bits h) 12) hj
  refine ⟨12 + k, by omega, ?_⟩
  rw [runI_tail (bits_lt h), e]
theorem way_meet {m : Nat} (hm : MkG m) (h : Int) {j : Nat} (hj : j ≤ m) : ∃ k, k < 10 * SetTable.turns m ∧ way m h k = j := by
  obtain ⟨n, hn, e⟩ := run_meet hm h hj
  obtain ⟨k, hk, e2⟩ := run_nth m (SetTable.bits h) n
  refine ⟨k, by unfold SetTable.turns; omega, ?_⟩
  show (nth m _ k).j = j
  rw [e2, ← e]
  rfl
/-- a table in which what was put is found again -/
structure Tb (t : SetTable) (hs : List Int) : Prop where
  up : Ris t.place.toList
  nod : t.dummies = #[]
  len : t.place.toList.length = hs.length
  msk : MkG t.mask
  in_ : ∀ x ∈ t.place.toList, x ≤ t.mask
  met : ∀ (i : Nat) (h : Int) (j : Nat), hs[i]? = some h → t.place.toList[i]? = some j → ∃ k, way t.mask h k = j ∧ ∀ c, c < k → way t.mask h c ∈ t.place.toList
theorem Tb.room {t : SetTable} {hs : List Int} (T : Tb t hs) (hl : hs.length ≤ t.mask) (h : Int) : ∃ K, K < 10 * SetTable.turns t.mask ∧ way t.mask h K ∉ t.place.toList ∧ ∀ k, k < K → way t.mask h k ∈ t.place.toList := by
  have short : t.place.toList.length < t.mask + 1 := by rw [T.len]; omega
  obtain ⟨j, hj, out⟩ := st_missing _ _ short
  obtain ⟨k, hk, e⟩ := way_meet T.msk h (Nat.le_of_lt_succ hj)
  obtain ⟨K, h1, h2, h3⟩ := st_least (p := fun k => way t.mask h k ∉ t.place.toList) k (e ▸ out)
  exact ⟨K, by omega, h2, fun c hc => Classical.not_not.mp (h3 c hc)⟩
end FL
namespace FL
open PySem PySem.Spec PyProof.Rows L2 PySem.W
section
variable {P : Program} {w : World} {A : Around} {E : Value → Shared → Prop} {s : Shared}
def ClsAt (P : Program) (w : World) (n : Nat) (s : Shared) (v : Value) : Prop := ∀ (A : Around) (E : Value → Shared → Prop) (Q : Bool → Shared → Prop), Q false s → wpAny (model P w) A (ofAClassStatement n v) Q E s
def HbvAt (P : Program) (w : World) (n : Nat) (s : Shared) (v : Value) : Prop := ∀ (A : Around) (E : Value → Shared → Prop) (Q : Bool → Shared → Prop), (∀ b, Q b s) → wpAny (model P w) A (hashByValue n v) Q E s
theorem ClsAt.tup {n : Nat} {a : Addr} {o : Obj} {vs : Array Value} {m : Nat} (ho : s.heap.get? a = some o) (hc : o.cls = .type "tuple") (hd : o.data = .seq vs m) (hq : ∀ v ∈ vs.toList, ClsAt P w n s v) : ClsAt P w (n + 1) s (.ref a) := fun A E Q h => by
  have ty : s.TypeIs (.ref a) "tuple" := ⟨o, ho, hc⟩
  have yes : (("tuple" : String) == "tuple") = true := rfl
  unfold ofAClassStatement
  refine wpAny_bind (wpAny_typeOf ty ?_)
  simp only [yes, if_true, Bool.not_true, Bool.false_eq_true, if_false]
  refine wpAny_bind (wpAny_pure ?_)
  simp only [Bool.not_true, Bool.false_eq_true, if_false]
  show wpAny _ _ (seqItems? (.ref a) >>= _) _ _ s
  refine wpAny_bind (wpAny_seqItems ho hd ?_)
  dsimp only
  refine wpAny_bind ?_
  show wpAny _ _ (forIn vs _ _) _ _ s
  rw [← Array.forIn_toList]
  refine wpAny_forIn_list _ (fun rest r z => r.1 = none ∧ z = s ∧ ∀ v ∈ rest, ClsAt P w n s v) _ (fun v rest r z hz => ?_) (fun r z hz => ?_) _ _ ⟨rfl, rfl, hq⟩
  · obtain ⟨e, rfl, all⟩ := hz
    refine wpAny_bind (all v List.mem_cons_self _ _ _ ?_)
    simp only [Bool.false_eq_true, if_false]
    exact wpAny_pure ⟨rfl, rfl, fun u m => all u (List.mem_cons_of_mem _ m)⟩
  · obtain ⟨r1, r2⟩ := r
    obtain ⟨e, rfl, _⟩ := hz
    cases e
    exact wpAny_pure h
theorem HbvAt.tup {n : Nat} {a : Addr} {o : Obj} {vs : Array Value} {m : Nat} (ho : s.heap.get? a = some o) (hc : o.cls = .type "tuple") (hd : o.data = .seq vs m) (hq : ∀ v ∈ vs.toList, HbvAt P w n s v) : HbvAt P w (n + 1) s (.ref a) := fun A E Q h => by
  have ty : s.TypeIs (.ref a) "tuple" := ⟨o, ho, hc⟩
  unfold hashByValue
  refine wpAny_bind (wpAny_specialOf ty F.slot_tuple_hash.lookup ?_)
  show wpAny _ _ (seqItems? (.ref a) >>= _) _ _ s
  refine wpAny_bind (wpAny_seqItems ho hd (wpAny_bind ?_))
  show wpAny _ _ (forIn vs _ _) _ _ s
  rw [← Array.forIn_toList]
  refine wpAny_forIn_list _ (fun rest r z => r.1 = none ∧ z = s ∧ ∀ v ∈ rest, HbvAt P w n s v) _ (fun v rest r z hz => ?_) (fun r z hz => ?_) _ _ ⟨rfl, rfl, hq⟩
  · obtain ⟨e, rfl, all⟩ := hz
    refine wpAny_bind (all v List.mem_cons_self _ _ _ fun b => ?_)
    cases b with
    | true =>
      simp only [Bool.not_true, Bool.false_eq_true, if_false]
      exact wpAny_pure ⟨rfl, rfl, fun u m => all u (List.mem_cons_of_mem _ m)⟩
    | false =>
      simp only [Bool.not_false, if_true]
      exact wpAny_pure (wpAny_pure (h false))
  · obtain ⟨r1, r2⟩ := r
    obtain ⟨e, rfl, _⟩ := hz
    cases e
    exact wpAny_pure (h true)
/-- the tuple at b is the key k -/
abbrev KeyAt (P : Program) (w : World) (h : Heap) (k : NestedKey) (b : Addr) : Prop := (nestedKind P w).is h k b
abbrev khash (w : World) (k : NestedKey) : Int := k.hash w
end
end FL
namespace FL
open PySem PySem.Spec PyProof.Rows L2 PySem.W
abbrev entK (w : World) (p : Addr × NestedKey) : Int × Value := (khash w p.2, Value.ref p.1)
structure SetG (P : Program) (w : World) (h : Heap) (a : Addr) (L : List (Addr × NestedKey)) (es : Array (Int × Value)) (ep : Nat) (t : SetTable) : Prop where
  ob : ∃ o, h.get? a = some o ∧ o.ExactSet ∧ o.data = .set es ep t
  rows : es.toList = L.map (entK w)
  tab : Tb t (L.map fun p => khash w p.2)
  nd : (L.map (·.2)).Nodup
  key : ∀ p ∈ L, KeyAt P w h p.2 p.1
  led : w.params.followText "set-order" = true ∨ t.led = true
  room : L.length * 5 < t.mask * 3
  few : L.length ≤ 1000
end FL
namespace FL
open PySem PySem.Spec PyProof.Rows L2 PySem.W
section
variable {P : Program} {w : World} {A : Around} {E : Value → Shared → Prop} {s : Shared}
theorem SetG.keep {h h' : Heap} {a : Addr} {L : List (Addr × NestedKey)} {es : Array (Int × Value)} {ep : Nat} {t : SetTable} (R : SetG P w h a L es ep t) (ha : ∀ o, h.get? a = some o → h'.get? a = some o) (hk : ∀ p ∈ L, KeyAt P w h' p.2 p.1) : SetG P w h' a L es ep t := by
  obtain ⟨o, ho, r⟩ := R.ob
  exact ⟨⟨o, ha o ho, r⟩, R.rows, R.tab, R.nd, hk, R.led, R.room, R.few⟩
end
end FL
namespace FL
open PySem PySem.Spec PyProof.Rows L2 PySem.W
mutual
def keyD : PyData → Option NestedKey
  | .none => some .none
  | .int i => some (.num i)
  | .str x => some (.text x)
  | .tuple ds => (keysD ds).map .tup
  | .bool _ | .list _ | .dict _ => none
def keysD : List PyData → Option (List NestedKey)
  | [] => some []
  | d :: ds => (keyD d).bind fun k => (keysD ds).map (k :: ·)
end
def kd (d : PyData) : NestedKey := (keyD d).getD .none
/-- each once -/
def ddp : List PyData → List PyData
  | [] => []
  | d :: ds => if (ddp ds).any (fun e => decide (kd e = kd d)) = true then ddp ds else d :: ddp ds
def kdOk (ds : List PyData) : Bool := ds.all fun d => (keyD d).isSome
end FL
namespace FL
open PySem PySem.Spec PyProof.Rows L2 PySem.W
section
variable {prog : Program} {w : World} {A : Around} {E : Value → Shared → Prop} {s : Shared}
theorem each_right {α β : Type} {R : α → β → Prop} : ∀ {as : List α} {bs : List β}, EachIs R as bs → ∀ b ∈ bs, ∃ a, a ∈ as ∧ R a b
  | _, _, .nil, b, m => nomatch m
  | _, _, .cons h t, b, m => by
    rcases List.mem_cons.mp m with rfl | m
    · exact ⟨_, List.mem_cons_self, h⟩
    · obtain ⟨a, x, y⟩ := each_right t b m
      exact ⟨a, List.mem_cons_of_mem _ x, y⟩
def fullT : PyData → Bool
  | .tuple [] => false
  | _ => true
theorem fullT_ok {d : PyData} (h : fullT d = true) (t : ∃ xs, d = .tuple xs) : ∃ x r, d = .tuple (x :: r) := by
  obtain ⟨xs, rfl⟩ := t
  cases xs with
  | nil => cases h
  | cons x r => exact ⟨x, r, rfl⟩
theorem firsts_of : ∀ (vs : List Value) (ds : List PyData) {Q : List (Option Value) → Shared → Prop}, EachIs (fun v d => ∃ as, Reads s.heap v d as) vs ds → (∀ d ∈ ds, ∃ xs, d = .tuple xs) → (∀ fs, EachIs (fun (f : Option Value) d => f.isSome = fullT d) fs ds → Q fs s) → wpAny (model prog w) A (vs.mapM firstOfTuple') Q E s
  | [], [], Q, _, _, q => by rw [List.mapM_nil]; exact wpAny_pure (q _ .nil)
  | v :: vs, d :: ds, Q, e, t, q => by
    cases e with
    | cons r0 e =>
      obtain ⟨as, r0⟩ := r0
      obtain ⟨xs, rfl⟩ := t _ List.mem_cons_self
      cases r0 with
      | @tuple l o is n _ as1 ho hc hd hr =>
        rw [List.mapM_cons, kas_first_eq]
        refine wpAny_bind (wpAny_bind (Looks.here (show Looks (model prog w) s.heap (typeOf (.ref l)) o.cls from (Looks.ld ho).andThen .now) ?_))
        rw [hc, if_neg (by simp)]
        refine wpAny_bind (listItems_at ho hd (wpAny_pure (wpAny_bind (firsts_of vs ds e (fun x m => t x (List.mem_cons_of_mem _ m)) fun fs hf => wpAny_pure (q _ (.cons ?_ hf))))))
        have len := SeqAt.ReadsAll.length _ _ _ hr
        rw [Array.length_toList] at len
        cases xs with
        | nil => simp [fullT, Array.getElem?_eq_none (show is.size ≤ 0 by simpa using len)]
        | cons x r =>
          have : 0 < is.size := by rw [len]; simp
          simp [fullT, Array.getElem?_eq_getElem this]
theorem kind_gen {v0 : Value} {vs : List Value} {d0 : PyData} {ds : List PyData} {Q : SortKind → Shared → Prop} (e : EachIs (fun v d => ∃ as, Reads s.heap v d as) (v0 :: vs) (d0 :: ds)) (t : ∀ d ∈ d0 :: ds, ∃ xs, d = .tuple xs) (h0 : fullT d0 = true) (hx : ∃ d ∈ d0 :: ds, fullT d = false) (q : Q general' s) :
    wpAny (model prog w) A (keyKind' (v0 :: vs).toArray) Q E s := by
  rw [keyKind'_eq, List.mapM_toArray, map_eq_pure_bind]
  refine wpAny_bind (wpAny_bind (firsts_of _ _ e t fun fs hf => wpAny_pure ?_))
  cases hf with
  | @cons f0 _ fs _ g0 gs =>
    have some0 : f0.isSome = true := by rw [g0]; exact h0
    have notall : ((f0 :: fs).toArray.all fun f => f.isSome) = false := by
      obtain ⟨d, md, hd⟩ := hx
      obtain ⟨f, mf, ef⟩ := each_right (EachIs.cons g0 gs : EachIs (fun (f : Option Value) d => f.isSome = fullT d) (f0 :: fs) (d0 :: ds)) d md
      rw [Bool.eq_false_iff]
      intro z
      have z := (List.all_eq_true.mp (by simpa using z)) f mf
      rw [ef, hd] at z
      cases z
    rw [notall]
    have e0 : ((f0 :: fs).toArray[0]?.bind id).isSome = true := by simpa using some0
    simp only [Bool.false_eq_true, if_false]
    try refine wpAny_bind (wpAny_pure ?_)
    rw [e0]
    simp only [if_true]
    exact wpAny_pure q
theorem oneLt_gen {d d' : PyData} {a b : Value} {as bs : List Addr} {Q : Bool → Shared → Prop} (ra : Reads s.heap a d as) (rb : Reads s.heap b d' bs) (hal : alike d d' = true) (hn : d ≠ .none) (hu : A.units + min d.depth d'.depth < cLine) (hq : Q (dataLt d d') s) :
    wpAny (model prog w) A (oneLt' false a b) Q E s := by
  rw [oneLt'_eq]
  simp only [Bool.false_eq_true, if_false]
  try refine wpAny_bind (wpAny_pure ?_)
  exact wpAny_bind (rcLt_alike d d' A s a b as bs ra rb hal hn hu prog w _ _ (wpAny_truthy_bool hq))
theorem sorts_tps {vs : List Value} {ds : List PyData} (e : EachIs (fun v d => ∃ as, Reads s.heap v d as) vs ds) (hal : AllAlike ds) (ht : ∀ d ∈ ds, ∃ xs, d = .tuple xs) (hu : ∀ d, d ∈ ds → A.units + d.depth < cLine) : SortsAt prog w A s (dataKind s.heap ds) vs := by
  by_cases all : ∀ d ∈ ds, fullT d = true
  · exact SortsAt.data e hal (.inl fun d m => fullT_ok (all d m) (ht d m)) hu
  · cases ds with
    | nil => exact absurd (fun d m => nomatch m) all
    | cons d0 ds =>
      cases f0 : fullT d0 with
      | false =>
        obtain ⟨xs, rfl⟩ := ht _ List.mem_cons_self
        cases xs with
        | cons x r => cases f0
        | nil => exact sorts_nil e hal (fun d m => ht d (List.mem_cons_of_mem _ m)) hu
      | true =>
        have some_ : ∃ d ∈ d0 :: ds, fullT d = false := by
          refine Classical.byContradiction fun z => all fun d m => ?_
          cases q : fullT d with
          | true => rfl
          | false => exact absurd ⟨d, m, q⟩ z
        refine ⟨fun v m => ?_, general', ?_, fun h2 E Q q => ?_⟩
        · obtain ⟨d, hd, as, r⟩ := e.left v m
          exact ⟨_, dataKind_some hal hd r⟩
        · intro E x y a b Q ha hb hq
          obtain ⟨d, as, hd, ra, rfl⟩ := dataKind_inv ha
          obtain ⟨d', as', hd', rb, rfl⟩ := dataKind_inv hb
          obtain ⟨xs, rfl⟩ := ht d hd
          obtain ⟨ys, rfl⟩ := ht d' hd'
          exact oneLt_gen ra rb (hal _ hd _ hd') (by simp) (Nat.lt_of_le_of_lt (Nat.add_le_add_left (Nat.min_le_left _ _) _) (hu _ hd)) hq
        · cases vs with
          | nil => simp at h2
          | cons v0 vs => exact kind_gen e ht f0 some_ q
end
end FL
namespace FL
open PySem PySem.Spec PyProof.Rows L2 PySem.W
mutual
theorem key_noas {h : Heap} : ∀ {d : PyData} {k : NestedKey} {v : Value} {as : List Addr}, keyD d = some k → Reads h v d as → as = []
  | .none, _, _, _, e, r => by cases r; rfl
  | .int i, _, _, _, e, r => by cases r; rfl
  | .str x, _, _, _, e, r => by cases r; rfl
  | .tuple ds, _, _, _, e, r => by
    simp only [keyD, Option.map_eq_some_iff] at e
    obtain ⟨ks, e, rfl⟩ := e
    cases r with
    | tuple h1 h2 h3 h4 => exact keys_noas e h4
  | .bool _, _, _, _, e, _ => by cases e
  | .list _, _, _, _, e, _ => by cases e
  | .dict _, _, _, _, e, _ => by cases e
theorem keys_noas {h : Heap} : ∀ {ds : List PyData} {ks : List NestedKey} {vs : List Value} {as : List Addr}, keysD ds = some ks → ReadsAll h vs ds as → as = []
  | [], _, _, _, e, r => by cases r; rfl
  | d :: ds, _, _, _, e, r => by
    simp only [keysD, Option.bind_eq_some_iff, Option.map_eq_some_iff] at e
    obtain ⟨k, e1, ks, e2, rfl⟩ := e
    cases r with
    | cons r1 r2 => rw [key_noas e1 r1, keys_noas e2 r2]; rfl
end
section
variable {P : Program} {w : World} {A : Around} {E : Value → Shared → Prop} {s : Shared}
abbrev datK (p : Addr × NestedKey) : PyData := p.2.data
theorem sort_keys {a : Addr} {n : Nat} {bs : List (Addr × NestedKey)} {Q : Value → Shared → Prop} (ho : s.heap.get? a = some (seqObj "list" (bs.map fun p => Value.ref p.1).toArray n)) (er : ∀ p ∈ bs, Reads s.heap (.ref p.1) (datK p) []) (hal : AllAlike (bs.map datK)) (ht : ∀ p ∈ bs, ∃ xs, datK p = .tuple xs) (hL : bs.length ≤ sizeLine)
    (hu : ∀ p ∈ bs, A.units + 1 + (datK p).depth < cLine) (h : Q .none { s with heap := sortedHeap s.heap a (bs.map fun p => Value.ref p.1) ((bs.mergeSort (dataLe false datK)).map fun p => Value.ref p.1).toArray }) :
    wpAny (model P w) A (call (.builtin "list.sort") [.ref a]) Q E s := by
  have each : ∀ {R : Value → Addr × NestedKey → Prop} {l : List (Addr × NestedKey)}, (∀ p ∈ l, R (.ref p.1) p) → EachIs R (l.map fun p => Value.ref p.1) l := by
    intro R l
    induction l with
    | nil => intro _; exact .nil
    | cons p l ih => intro h; exact .cons (h p List.mem_cons_self) (ih fun q m => h q (List.mem_cons_of_mem _ m))
  have back : ∀ {out : List Value} {l : List (Addr × NestedKey)}, EachIs (fun v (p : Addr × NestedKey) => v = Value.ref p.1) out l → out = l.map fun p => Value.ref p.1 := by
    intro out l
    induction l generalizing out with
    | nil => intro h; cases h; rfl
    | cons p l ih => intro h; cases h with
      | cons a b => rw [a, ih b]; rfl
  have er' : EachIs (fun v b => ∃ as, Reads (sortingHeap s.heap a (bs.map fun p => Value.ref p.1)) v (datK b) as) (bs.map fun p => Value.ref p.1) bs :=
    each_keepBut (h' := sortingHeap s.heap a _) (fun _ _ hb q => sortingHeap_old hb q) (fun o q => by rw [ho] at q; rw [← Option.some.inj q]) hal (each fun p m => ⟨[], er p m, by simp⟩)
  have S : SortsAt P w A.in1 { s with heap := sortingHeap s.heap a (bs.map fun p => Value.ref p.1) } (dataKind (sortingHeap s.heap a (bs.map fun p => Value.ref p.1)) (bs.map datK)) (bs.map fun p => Value.ref p.1) :=
    sorts_tps (s := { s with heap := sortingHeap s.heap a (bs.map fun p => Value.ref p.1) }) (each_map (R := fun v d => ∃ as, Reads (sortingHeap s.heap a (bs.map fun p => Value.ref p.1)) v d as) datK er') hal (fun d m => by
      obtain ⟨p, mp, rfl⟩ := List.mem_map.mp m
      exact ht p mp) fun d m => by
      obtain ⟨p, mp, rfl⟩ := List.mem_map.mp m
      exact hu p mp
  refine wpAny_call_entry slot_list_sort ⟨_, ho, rfl⟩ entry_list_sort (list_sort_vals (κ := dataKind (sortingHeap s.heap a (bs.map fun p => Value.ref p.1)) (bs.map datK)) ho S (by rw [List.length_map]; exact hL) ⟨.none, rfl, ?_⟩) (args_list_sort _)
  have := back (sortVals_data (R := fun v (p : Addr × NestedKey) => v = Value.ref p.1) false (each fun p _ => rfl) er' hal)
  rw [this]
  exact h
end
end FL
namespace FL
open PySem PySem.Spec PyProof.Rows L2 PySem.W
def isTp : PyData → Bool
  | .tuple _ => true
  | _ => false
def setB (ds : List PyData) : Bool := kdOk ds && ds.all isTp && (ds.all fun d => decide ((kd d).depth ≤ 8)) && (ds.all fun d => !d.hasDict) && decide (ds.length ≤ 1000)
def itemsT (s : Sl) (h : Hs) : Option (List PyData) := match s with
  | .val (.tuple ds) => some ds
  | s => litems s h
def lst? (o : Option (List PyData)) : Option PyData := match o with
  | some ds => if setB ds = true then some (.int (ddp ds).length) else none
  | none => none
def gLenSetT : Sl → Hs → Option PyData := fun s h => lst? (itemsT s h)
end FL
namespace FL
open PySem PySem.Spec PyProof.Rows L2 PySem.W
def c2L (t0 : Tg) (src1 : En → Hs → Rz (List PyData)) (t1 : Tg) (vs1 : List Nat) (fe : Ev) (env : En) : List PyData → List PyData → Hs → Rz (List PyData)
  | [], acc, h => .ok acc h
  | d :: ds, acc, h => match t0.put d env with
    | none => .bad
    | some e0 => match src1 e0 h with
      | .ok ds1 h => match compL t1 tTrue fe (wipeE e0 vs1) ds1 acc h with
        | .ok acc h => c2L t0 src1 t1 vs1 fe env ds acc h
        | _ => .bad
      | _ => .bad
def eComp2 (src0 : En → Hs → Rz (List PyData)) (t0 : Tg) (vs : List Nat) (src1 : En → Hs → Rz (List PyData)) (t1 : Tg) (vs1 : List Nat) (fe : Ev) : Ev := fun env h => (src0 env h).bind fun ds h => (c2L t0 src1 t1 vs1 fe (wipeE env vs) ds [] h).bind fun out h => .ok (.val (.list out)) h
section
variable {K : PySem.W.Frag} {mg : Str → Option Value} {C : Fc} {Wx : WX} {σ : St}
structure LMid (K : PySem.W.Frag) (C : Fc) (D : Addr) (ρ1 : Fps) (H1 : Hp) (acc : List PyData) (ρ : Fps) (h : Hs) (H : Hp) (av : List V) : Prop where
  S : SimH K (C.plus D) ρ h H
  st : Stp (Mo C ρ1) H1 (Mo (C.plus D) ρ) H
  root : ∀ (n : Nat) (fp : List Addr), ρ1[n]? = some fp → ∃ fp' : List Addr, ρ[n]? = some fp' ∧ fp <+: fp'
  at_ : H D = some (.lst av)
  all : RpAll K H (Mo (C.plus D) ρ) av acc
theorem LMid.ex {D : Addr} {ρ1 ρ : Fps} {H1 H : Hp} {acc : List PyData} {h : Hs} {av : List V} (M : LMid K C D ρ1 H1 acc ρ h H av) : Ex C ρ1 H1 ρ H :=
  ⟨⟨M.st.keepK, fun b m => M.st.new b (Mo.unplus m)⟩, M.root⟩
theorem LMid.step {D : Addr} {ρ1 ρ ρ2 : Fps} {H1 H H2 : Hp} {acc : List PyData} {h h2 : Hs} {av : List V} (M : LMid K C D ρ1 H1 acc ρ h H av) (S2 : SimH K ((C.plus D).sub ρ H) ρ2 h2 H2) (x : Ex ((C.plus D).sub ρ H) ρ H ρ2 H2) :
    LMid K C D ρ1 H1 acc ρ2 h2 H2 av ∧ Ex (C.plus D) ρ H ρ2 H2 := by
  have x' : Ex (C.plus D) ρ H ρ2 H2 := Ex.cong (C := (C.plus D).sub ρ H) (C' := C.plus D) rfl x
  refine ⟨⟨M.S.backW S2, M.st.trans x'.stp, fun n fp e => ?_, S2.fr M.at_ (M.S.bar D (.inr rfl)).1 nt_lst, M.all.stp x'.stp⟩, x'⟩
  obtain ⟨fp1, e1, q1⟩ := M.root n fp e
  obtain ⟨fp2, e2, q2⟩ := x'.root n fp1 e1
  exact ⟨fp2, e2, q1.trans q2⟩
theorem LMid.next {D : Addr} {ρ1 ρ : Fps} {H1 H H' H0 : Hp} {acc : List PyData} {h : Hs} {av : List V} {J : It} {ds : List PyData} {M0 : Ms} {i : Nat} {d : PyData} {x : V} (M : LMid K C D ρ1 H1 acc ρ h H av) (G : Gvs K J ds M0 H0) (st : Stp M0 H0 (Mo (C.plus D) ρ) H) (e : ds[i]? = some d) (y : J.yld i H x H') :
    LMid K C D ρ1 H1 acc ρ h H' av ∧ Ex (C.plus D) ρ H ρ H' ∧ Rp K H' (Mo (C.plus D) ρ) x d := by
  obtain ⟨S3, x3, r3⟩ := G.step (C := C.plus D) st M.S e y
  refine ⟨⟨S3, M.st.trans x3.stp, M.root, ?_, M.all.stp x3.stp⟩, x3, r3⟩
  rcases G.yld _ H i d x H' st e y with ⟨rfl, _⟩ | ⟨T, ws, es, hT, rfl, _⟩ | ⟨rfl, _⟩
  · exact M.at_
  · rw [upd_ne (ne_of_none M.at_ hT)]; exact M.at_
  · exact M.at_
end
@[simp] theorem v_comp2 {src0 src1 : En → Hs → Rz (List PyData)} {t0 t1 : Tg} {vs vs1 : List Nat} {fe : Ev} {env : En} {h : Hs} : eComp2 src0 t0 vs src1 t1 vs1 fe env h = (src0 env h).bind fun ds h => (c2L t0 src1 t1 vs1 fe (wipeE env vs) ds [] h).bind fun out h => .ok (.val (.list out)) h := id rfl
end FL
namespace FL
open PySem PySem.Spec PyProof.Rows L2 PySem.W
def gLenSetB : Sl → Hs → Option PyData := fun s h => match gLenSet s h with
  | some d => some d
  | none => gLenSetT s h
theorem v_lenSetBi {s : Sl} {h : Hs} {d : PyData} (e : gLenSet s h = some d) : gLenSetB s h = some d := by unfold gLenSetB; rw [e]
@[simp] theorem v_lenSetBn {ws : List Nat} {h : Hs} (hl : ws.length ≤ 4000) : gLenSetB (.val (.list (natsD ws))) h = some (.int ((ddI (ws.map fun w : Nat => (w : Int))).length : Nat)) := by
  refine v_lenSetBi ?_
  rw [v_lenSet, v_liL]
  show ((ints? (natsD ws)).bind _) = _
  rw [ints_nats]
  show (if (ws.map fun w : Nat => (w : Int)).length ≤ 4000 then _ else _) = _
  rw [List.length_map, if_pos hl]
end FL
namespace FL
open PySem PySem.Spec PyProof.Rows L2
def srcEnS (k : Nat) (f : Av) : En → Hs → Rz (List PyData) := fun env h => (f env h).bind fun ss h => match ss with
  | [.val (.list ds)] => .ok (enumD k ds) h
  | _ => .bad
section
variable {X : Cx} {C : Fc} {Wx : WX}
def gLenS : GL := fun ss _ => match ss with
  | [.val (.str z)] => if z.length ≤ 16777216 then some (.int z.length) else none
  | _ => none
def gIntS : GL := fun ss _ => match ss with
  | [.val (.str z)] => if z.length ≤ 640 then (PySem.intText? z).map .int else none
  | _ => none
def sgn (c : Nat) : PyData := .str ⟨#[c]⟩
def srcStr (f : Ev) : En → Hs → Rz (List PyData) := fun env h => (f env h).bind fun s h => match s with
  | .val (.str z) => .ok (z.cps.toList.map sgn) h
  | _ => .bad
end
end FL
namespace FL
open PySem PySem.Spec PyProof.Rows L2
def sgn? (s : Sl) : Option Nat := match s with
  | .val (.str z) => match z.cps.toList with
    | [c] => some c
    | _ => none
  | _ => none
def txt? (s : Sl) : Option Str := match s with
  | .val (.str z) => some z
  | _ => none
def gInS : G2 := fun s t _ => match sgn? s, txt? t with
  | some c, some z => some (.bool (decide (c ∈ z.cps.toList)))
  | _, _ => none
def gNotInS : G2 := fun s t _ => match sgn? s, txt? t with
  | some c, some z => some (.bool (!decide (c ∈ z.cps.toList)))
  | _, _ => none
def gCatS : G2 := fun s t _ => match txt? s, txt? t with
  | some a, some b => if a.length + b.length ≤ 16777216 then some (.str (a ++ b)) else none
  | _, _ => none
def gIxS : G2 := fun s t _ => match txt? s, t with
  | some z, .val (.int i) => if z.length ≤ 16777216 then (atI z.cps.toList i).map sgn else none
  | _, _ => none
def gSplit (sep : Str) : Sl → Hs → Option PyData := fun s _ => match txt? s with
  | some z => if z.length ≤ 16000000 then some (.list ((Txt.split z sep).map .str)) else none
  | none => none
@[simp] theorem v_txt {z : Str} : txt? (.val (.str z)) = some z := id rfl
@[simp] theorem v_lenS {z : Str} {h : Hs} : gLenS [.val (.str z)] h = if z.length ≤ 16777216 then some (.int z.length) else none := id rfl
@[simp] theorem v_intS {z : Str} {h : Hs} : gIntS [.val (.str z)] h = if z.length ≤ 640 then (PySem.intText? z).map .int else none := id rfl
@[simp] theorem v_catS {a b : Str} {h : Hs} : gCatS (.val (.str a)) (.val (.str b)) h = if a.length + b.length ≤ 16777216 then some (.str (a ++ b)) else none := id rfl
@[simp] theorem v_split {sep z : Str} {h : Hs} : gSplit sep (.val (.str z)) h = if z.length ≤ 16000000 then some (.list ((Txt.split z sep).map .str)) else none := id rfl
@[simp] theorem v_inSg {c : Nat} {z : Str} {h : Hs} : gInS (.val (sgn c)) (.val (.str z)) h = some (.bool (decide (c ∈ z.cps.toList))) := id rfl
@[simp] theorem v_notInSg {c : Nat} {z : Str} {h : Hs} : gNotInS (.val (sgn c)) (.val (.str z)) h = some (.bool (!decide (c ∈ z.cps.toList))) := id rfl
@[simp] theorem v_ixS {z : Str} {i : Int} {h : Hs} : gIxS (.val (.str z)) (.val (.int i)) h = if z.length ≤ 16777216 then (atI z.cps.toList i).map sgn else none := id rfl
@[simp] theorem v_srcStr {f : Ev} {env : En} {h : Hs} : srcStr f env h = (f env h).bind fun s h => match s with
  | .val (.str z) => .ok (z.cps.toList.map sgn) h
  | _ => .bad := id rfl
@[simp] theorem v_srcEnS {k : Nat} {f : Av} {env : En} {h : Hs} : srcEnS k f env h = (f env h).bind fun ss h => match ss with
  | [.val (.list ds)] => .ok (enumD k ds) h
  | _ => .bad := id rfl
end FL
namespace FL
open PySem PySem.Spec PyProof.Rows L2 PySem.W
def sStarR (i j : Nat) (f : Ev) : Sv := fun env h => (f env h).fl env fun s h => match s with
  | .val (.list (d :: ds)) => .next ((env.set i (some (.val d))).set j (some (.val (.list ds)))) h
  | _ => .bad
@[simp] theorem v_starR {i j : Nat} {f : Ev} {env : En} {h h1 : Hs} {ds : List PyData} {d : PyData} (e : f env h = .ok (.val (.list (d :: ds))) h1) : sStarR i j f env h = .next ((env.set i (some (.val d))).set j (some (.val (.list ds)))) h1 := by
  unfold sStarR
  rw [e, v_fl]
end FL
namespace FL
open PySem PySem.Spec PyProof.Rows L2 PySem.W
def lookQ (kvs : List (List Int × PyData)) (k : List Int) : Option PyData := (kvs.find? fun p => decide (p.1 = k)).map (·.2)
def putQ (kvs : List (List Int × PyData)) (k : List Int) (d : PyData) : List (List Int × PyData) :=
  if (kvs.any fun p => decide (p.1 = k)) = true then kvs.map (fun p => if p.1 = k then (p.1, d) else p) else kvs ++ [(k, d)]
theorem look_relQ {K : PySem.W.Frag} {H : Hp} {M : Ms} {k : List Int} : ∀ {vs : List (List Key × V)} {kvs : List (List Int × PyData)}, vs.map (·.1) = kvs.map (fun p => p.1.map Sum.inl) → RpAll K H M (vs.map (·.2)) (kvs.map (·.2)) →
    match lookQ kvs k with
    | some d => ∃ v, valV vs (k.map Sum.inl) = some v ∧ Rp K H M v d
    | none => valV vs (k.map Sum.inl) = none
  | [], [], _, _ => rfl
  | [], _ :: _, e, _ => by simp at e
  | _ :: _, [], e, _ => by simp at e
  | v :: vs, d :: kvs, e, r => by
    rw [List.map_cons, List.map_cons, List.cons.injEq] at e
    cases r with
    | cons h t =>
      have ih := look_relQ (k := k) e.2 t
      by_cases q : d.1 = k
      · have q' : v.1 = k.map Sum.inl := by rw [e.1, q]
        have e1 : lookQ (d :: kvs) k = some d.2 := by unfold lookQ; rw [List.find?_cons]; simp [q]
        have e2 : valV (v :: vs) (k.map Sum.inl) = some v.2 := by unfold valV; rw [List.find?_cons]; simp [q']
        rw [e1, e2]
        exact ⟨v.2, rfl, h⟩
      · have q' : ¬ v.1 = k.map Sum.inl := fun z => q (inl_inj (e.1.symm.trans z))
        have e1 : lookQ (d :: kvs) k = lookQ kvs k := by unfold lookQ; rw [List.find?_cons]; simp [q]
        have e2 : valV (v :: vs) (k.map Sum.inl) = valV vs (k.map Sum.inl) := by unfold valV; rw [List.find?_cons]; simp [q']
        rw [e1, e2]
        exact ih
theorem dput_relQ {K : PySem.W.Frag} {H : Hp} {M : Ms} {k : List Int} {v : V} {d : PyData} (rv : Rp K H M v d) {vs : List (List Key × V)} {kvs : List (List Int × PyData)} (e : vs.map (·.1) = kvs.map (fun p => p.1.map Sum.inl)) (r : RpAll K H M (vs.map (·.2)) (kvs.map (·.2))) :
    (putK vs (k.map Sum.inl) v).map (·.1) = (putQ kvs k d).map (fun p => p.1.map Sum.inl) ∧ RpAll K H M ((putK vs (k.map Sum.inl) v).map (·.2)) ((putQ kvs k d).map (·.2)) := by
  have ei : ∀ a : List Int, (a.map (Sum.inl : Int → Key) = k.map Sum.inl) = (a = k) := fun a => propext ⟨inl_inj, fun z => by rw [z]⟩
  have ea : ∀ {vs : List (List Key × V)} {kvs : List (List Int × PyData)}, vs.map (·.1) = kvs.map (fun p => p.1.map Sum.inl) → (vs.any fun kv => decide (kv.1 = k.map Sum.inl)) = (kvs.any fun kv => decide (kv.1 = k)) := by
    intro vs
    induction vs with
    | nil => intro kvs e; cases kvs with
      | nil => rfl
      | cons _ _ => simp at e
    | cons v vs ih =>
      intro kvs e
      cases kvs with
      | nil => simp at e
      | cons d kvs =>
        rw [List.map_cons, List.map_cons, List.cons.injEq] at e
        rw [List.any_cons, List.any_cons, ih e.2, e.1]
        simp only [ei]
  unfold putK putQ
  rw [ea e]
  by_cases q : (kvs.any fun kv => decide (kv.1 = k)) = true
  · rw [if_pos q, if_pos q]
    clear q
    induction vs generalizing kvs with
    | nil => cases kvs with
      | nil => exact ⟨rfl, .nil⟩
      | cons _ _ => simp at e
    | cons w vs ih =>
      cases kvs with
      | nil => simp at e
      | cons x kvs =>
        rw [List.map_cons, List.map_cons, List.cons.injEq] at e
        cases r with
        | cons h t =>
          obtain ⟨i1, i2⟩ := ih e.2 t
          by_cases q : x.1 = k
          · have q' : w.1 = k.map Sum.inl := by rw [e.1, q]
            simp only [List.map_cons, if_pos q, if_pos q']
            exact ⟨by rw [i1, e.1], .cons rv i2⟩
          · have q' : ¬ w.1 = k.map Sum.inl := fun z => q (inl_inj (e.1.symm.trans z))
            simp only [List.map_cons, if_neg q, if_neg q']
            exact ⟨by rw [i1, e.1], .cons h i2⟩
  · rw [if_neg q, if_neg q, List.map_append, List.map_append, List.map_append, List.map_append, e]
    exact ⟨rfl, RpAll.append r (.cons rv .nil)⟩
def obQ (o : Option Ob) : Option (List (List Int × PyData)) := match o with
  | some (.dtq kvs) => some kvs
  | _ => none
@[simp] theorem v_obQ {kvs : List (List Int × PyData)} : obQ (some (.dtq kvs)) = some kvs := id rfl
def dqS (s : Sl) (h : Hs) : Option (List (List Int × PyData)) := match s with
  | .loc n => obQ h[n]?
  | _ => none
@[simp] theorem v_dqS {n : Nat} {h : Hs} : dqS (.loc n) h = obQ h[n]? := id rfl
theorem dq_rel {K : PySem.W.Frag} {C : Fc} {ρ : Fps} {h : Hs} {H : Hp} {s : Sl} {v : V} {kvs : List (List Int × PyData)} (S : SimH K C ρ h H) (r : SlV K C ρ H v s) (e : dqS s h = some kvs) : ∃ (n : Nat) (a : Addr) (vs : List (List Key × V)), s = .loc n ∧ v = .ref a ∧ ρ[n]? = some [a] ∧ h[n]? = some (.dtq kvs) ∧
    H a = some (.dT vs) ∧ vs.map (·.1) = kvs.map (fun p => p.1.map Sum.inl) ∧ RpAll K H (Mo C ρ) (vs.map (·.2)) (kvs.map (·.2)) := by
  unfold dqS at e
  split at e
  · rename_i n
    unfold obQ at e
    split at e
    · rename_i kvs' e1
      cases e
      obtain ⟨fp, a, e2, e3, rfl⟩ := r
      obtain ⟨b, vs, rfl, h1, h2, h3⟩ := S.obj n fp _ e2 e1
      have : b = a := by simpa using e3
      subst this
      exact ⟨n, b, vs, rfl, rfl, e2, e1, h1, h2, h3⟩
    · cases e
  · cases e
def eTqN : Ev := fun _ h => .ok (.loc h.length) (h ++ [.dtq []])
@[simp] theorem v_tqN {env : En} {h : Hs} : eTqN env h = .ok (.loc h.length) (h ++ [.dtq []]) := id rfl
section
variable {X : Cx} {C : Fc} {Wx : WX}
theorem fe_tqN {pos : Pos} : FE X C Wx (.Dict [] [] pos) eTqN := PE.imp pe_dnewT fun σ H Q p => by
  obtain ⟨ρ, env, h, S, E, P⟩ := p
  intro q hq
  have S' := S.push (o := .dT []) (ob := .dtq []) hq ⟨q, _, rfl, upd_same, rfl, .nil⟩
  refine P (ρ ++ [[q]]) (.ref q) _ (Ex.push hq) S' ?_
  rw [← S.len]
  exact SlV.pushed _
def keyQ (s : Sl) : Option (List Int) := match s with
  | .val (.tuple ds) => ints? ds
  | _ => none
theorem key_any {P : Program} {w : World} {h : Heap} {b : Addr} {ks : List Key} {its : List Value} {xs : List V} (p : IsTup h b its.toArray) (r : Vals xs its) (e : xs = ks.map kV) : (tupleKind (mixKind P w)).is h ks b := by
  subst e
  obtain ⟨o, h1, h2, n, h3⟩ := p
  exact ⟨o, its.toArray, n, h1, h2, h3, by simpa using items_are r⟩
def gDQIx : G2 := fun s t h => match dqS s h, keyQ t with
  | some kvs, some k => lookQ kvs k
  | _, _ => none
theorem pe_dqix {o i : Expr} {to ty : TE} {pos : Pos} (hu : X.A.units + 1 < cLine) (ho : PE X o to) (hi : PE X i ty) (hs : NoSl i) : PE X (.Subscript o i pos) (fun σ H Q => to σ H fun x H1 => ty σ H1 fun y H2 => ∃ a kvs k b v, x = .ref a ∧ H2 a = some (.dT kvs) ∧ y = .ref b ∧ SqT X.K H2 b ((k : List Int).map V.int) ∧ valV kvs (k.map Sum.inl) = some v ∧ Q v H2) := by
  refine ⟨fun pins s σ H Q I h => ?_⟩
  refine subD_of PySem.F.slot_dict_getitem.lookup hs (thn (ho.run pins s σ H _ I h) fun u s1 ⟨x, H1, I1, rx, q1⟩ => thn (hi.run pins s1 σ H1 _ I1 q1) fun iv s2 ⟨y, H2, I2, ry, a, kvs, k, b, v, ex, hD, ey, hb, l, q⟩ => ?_)
  subst ex ey
  obtain rfl : u = Value.ref a := rx
  cases (show iv = Value.ref b from ry)
  obtain ⟨z, hd, xs, rel, dd⟩ := dt_of I2.hok hD
  obtain ⟨its, rv, p, hz⟩ := I2.tuple hb
  obtain ⟨w', hw, rw'⟩ := RelO.some_of (v := v) (o := (atKey xs (k.map Sum.inl)).map (·.2)) (by rw [← l]; exact rel.val _)
  obtain ⟨p2, hp, hp2⟩ := Option.map_eq_some_iff.mp hw
  refine ⟨dd.typeIs, ?_⟩
  refine wpAny_getItem_heap (tupleKind_room_in1 hu) (key_any p rv (by rw [kv_int])) dd hp ?_
  rw [hp2]
  exact ⟨v, H2, I2.tok _, rw', q⟩
theorem fe_dqix {o i : Expr} {f1 f2 : Ev} {pos : Pos} (hu : X.A.units + 65 < cLine) (ho : FE X C Wx o f1) (hi : FE X C Wx i f2) (hs : NoSl i := by intro _ _; rfl) : FE X C Wx (.Subscript o i pos) (cBin gDQIx f1 f2) := PE.imp (pe_dqix (by omega) ho hi hs) fun σ H Q p => by
  have p1 := rd.bin p
  obtain ⟨ρ, env, h, S, E, P⟩ := p1
  refine ⟨ρ, env, h, S, E, Po.mono P fun x H1 q => ?_⟩
  obtain ⟨ρ, env, h, S, E, P⟩ := q
  refine ⟨ρ, env, h, S, E, Po.mono P fun y H2 q => ?_⟩
  obtain ⟨ρ, h, s, t, d, S, r1, r2, e, k⟩ := q
  unfold gDQIx at e
  split at e
  · rename_i kvs ks e1 e2
    obtain ⟨n, a, vs, rfl, rfl, _, _, hD, hk, hv⟩ := dq_rel S r1 e1
    unfold keyQ at e2
    split at e2
    · rename_i ds
      cases (show Rp X.K H2 (Mo C ρ) y (.tuple ds) from r2) with
      | tup qq ra =>
        have ev := rp_intsK ra e2
        subst ev
        have lk := look_relQ (k := ks) hk hv
        rw [e] at lk
        obtain ⟨v, l1, l2⟩ := lk
        exact ⟨a, vs, ks, _, v, rfl, hD, rfl, qq.sq, l1, k _ _ (Ex.refl _ _ _) S l2⟩
    · cases e2
  · cases e
end
@[simp] theorem v_dqix {s t : Sl} {h : Hs} {kvs : List (List Int × PyData)} {k : List Int} (e1 : dqS s h = some kvs) (e2 : keyQ t = some k) : gDQIx s t h = lookQ kvs k := by unfold gDQIx; rw [e1, e2]
end FL
namespace FL
open PySem PySem.Spec PyProof.Rows L2 PySem.W
section
variable {prog : Program} {w : World} {A : Around} {E : Value → Shared → Prop} {s : Shared}
theorem min_twoH {a b : Value} {Q : Value → Shared → Prop}
    (h : wpAny (model prog w) A.in1 (pyIter (.ref s.heap.objs.size)) (fun it s2 => ∃ I fp wr G n P St H bt, it = .ref I ∧ WalksS prog w A.in1 I fp wr G n P St ∧ St 0 s2 ∧ (∀ b ∈ fp, b < s2.heap.objs.size) ∧ 0 < n ∧
      (∀ b o, H.get? b = some o → b ∉ wr) ∧ (∀ b o, H.get? b = some o → s2.heap.get? b = some o) ∧ CmpIn prog w A.in1 .Lt H P bt ∧ ∀ v s', P (argBest bt (n - 1)) v → Moved wr G s2 s' → Q v s') E { s with heap := s.heap.push { cls := .type "tuple", data := .seq #[a, b] } }) :
    wpAny (model prog w) A (call (.builtin "min") [a, b]) Q E s := by
  have hname : (toString "min" ++ toString ".loop" : String) = "min.loop" := by decide
  refine call_function_tree F.kind_min F.plain_min F.entry_min (F.args_min2 _ _) ?_
  show wpAny _ A.in1 (Builtin.Builtins.bindParams "min" ["key", "default"] 0 ⟨[], []⟩ >>= _) _ _ s
  refine wpAny_bind (wpAny_of_eq (show Builtin.Builtins.bindParams "min" ["key", "default"] 0 ⟨[], []⟩ = pure [none, none] from rfl) ?_)
  show wpAny _ A.in1 (newTuple [a, b] >>= _) _ _ s
  refine wpAny_bind (wpAny_newObj_type ?_)
  refine wpAny_bind (wpAny_mono h (fun it s2 h2 => ?_) fun _ _ e => e)
  obtain ⟨I, fp, wr, G, n, P, St, H, bt, rfl, W, hst, hfp, hn, hw, hkeep, hcmp, hQ⟩ := h2
  refine wpAny_bind (wpAny_newObj_type ?_)
  have hSf : s2.heap.objs.size ∉ fp := fun hm => Nat.lt_irrefl _ (hfp _ hm)
  rw [hname]
  refine wpAny_pure ⟨plainId_quiet F.plain_min_loop _, codeAny_min_loop_firstH W H hw bt hcmp s2.heap.objs.size hSf (fresh_in hkeep) _ hn (fun b o e => Heap.get?_push_of_some _ (hkeep b o e)) (W.frame 0 s2 _ s2.toks hst (Nat.le_refl _) fun b _ o e => Heap.get?_push_of_some _ e) (Heap.get?_push_size _ rfl) fun v s' hP hm => ?_⟩
  exact hQ v s' hP (Moved.drop_new (tk := s2.toks) hm (Nat.le_refl _))
theorem iter_tupW {l : Addr} {vs : Array Value} {Q : Value → Shared → Prop} (hh : A.handled = none) (hl : s.heap.IsTuple l vs)
    (h : ∀ s2 : Shared, s2 = { s with heap := s.heap.push { cls := .type "tuple_iterator", data := .fields #[.ref l, .int 0 0] } } →
      WalksS prog w A s.heap.objs.size [s.heap.objs.size, l] [s.heap.objs.size] (fun a b => b = a) vs.size (fun i v => vs[i]? = some v) (fun i s' => s'.heap.IsTupleIter s.heap.objs.size l i ∧ s'.heap.IsTuple l vs) →
      (s2.heap.IsTupleIter s.heap.objs.size l 0 ∧ s2.heap.IsTuple l vs) → (∀ b ∈ [s.heap.objs.size, l], b < s2.heap.objs.size) → (∀ b o, s.heap.get? b = some o → b ∉ [s.heap.objs.size]) → (∀ b o, s.heap.get? b = some o → s2.heap.get? b = some o) → Q (.ref s.heap.objs.size) s2) :
    wpAny (model prog w) A (pyIter (.ref l)) Q E s := by
  have hlt : l < s.heap.objs.size := by obtain ⟨_, e, _⟩ := hl; exact Heap.lt_size e
  refine wpAny_pyIter_tuple hl (h _ rfl (Walks.tuple (A := A) hh _ l (Nat.ne_of_lt hlt) vs).toS ⟨⟨_, Heap.get?_push_size _ rfl, rfl, rfl⟩, hl.at fun o e => Heap.get?_push_of_some _ e⟩ (fun b hb => ?_) (fun b o e hb => ?_) fun b o e => Heap.get?_push_of_some _ e)
  · show b < (s.heap.push _).objs.size
    rw [Heap.size_push]
    rcases List.mem_cons.mp hb with rfl | hb
    · exact Nat.lt_succ_self _
    · rw [List.mem_singleton.mp hb]
      exact Nat.lt_succ_of_lt hlt
  · have := Heap.lt_size e
    rw [List.mem_singleton.mp hb] at this
    exact Nat.lt_irrefl _ this
theorem min_two_at {a b : Value} {x y : PyData} {as : List Addr} {Q : Value → Shared → Prop} (hh : A.handled = none) (hr : ReadsAll s.heap [a, b] [x, y] as) (ha : AlikeAll [x, y]) (hu : A.units + 1 + PyData.depthAll [x, y] < cLine)
    (h : ∀ (i : Nat) v h' tk, [a, b][i]? = some v → [x, y][i]? = some (minD x [y]) → (∀ b o, s.heap.get? b = some o → h'.get? b = some o) → Q v { s with heap := h', toks := tk }) :
    wpAny (model prog w) A (call (.builtin "min") [a, b]) Q E s := by
  have hT : (s.heap.push { cls := .type "tuple", data := .seq #[a, b] }).IsTuple s.heap.objs.size #[a, b] := ⟨_, Heap.get?_push_size _ rfl, rfl, 0, rfl⟩
  have hr2 : ReadsAll (s.heap.push { cls := .type "tuple", data := .seq #[a, b] }) #[a, b].toList [x, y] as := ReadsAll.keeps (fun b o e => Heap.get?_push_of_some _ e) hr
  refine min_twoH (iter_tupW (A := A.in1) (s := { s with heap := s.heap.push { cls := .type "tuple", data := .seq #[a, b] } }) hh hT fun s2 e W st hfp hw hk => ?_)
  refine ⟨_, _, _, _, _, _, _, (s.heap.push { cls := .type "tuple", data := .seq #[a, b] }), _, rfl, W, st, hfp, (show 0 < 2 by decide), hw, hk, cmpIn_lt (A := A.in1) (s := { s with heap := s.heap.push { cls := .type "tuple", data := .seq #[a, b] } }) hr2 ha (by show A.units + 1 + _ < _; exact hu), fun v s' hP m => ?_⟩
  obtain ⟨h', tk, rfl, hk'⟩ := moved_old e rfl m
  obtain ⟨e3, e2⟩ := argBest_fold dataLt PyData.none x [y] 1 (Nat.le_refl _)
  refine h (argBest (fun i j => dataLt ([x, y].getD i .none) ([x, y].getD j .none)) 1) v h' tk (by simpa using hP) ?_ fun b o eb => hk' b o (Heap.get?_push_of_some _ eb)
  have hlt : argBest (fun i j => dataLt ([x, y].getD i .none) ([x, y].getD j .none)) 1 < [x, y].length := Nat.lt_succ_of_le e3
  rw [List.take_of_length_le (by simp)] at e2
  rw [List.getElem?_eq_getElem hlt]
  rw [List.getD_eq_getElem?_getD, List.getElem?_eq_getElem hlt] at e2
  unfold minD
  rw [← e2]
  rfl
end
def gMinT2 : GL := fun ss _ => match ss with
  | [.val x, .val y] => if minB [x, y] = true then some (minD x [y]) else none
  | _ => none
section
variable {X : Cx} {C : Fc}
theorem c_minT2 (hc : X.calm = true) (hu : X.A.units + 65 < cLine) : CallR X (.builtin "min") (rdC X.K C gMinT2) := fun pins s σ H xs us Q I r ⟨ρ, h, ss, d, S, r1, e, k⟩ => by
  unfold gMinT2 at e
  split at e
  · rename_i x y
    split at e
    · rename_i c
      cases e
      obtain ⟨vx, vy, rfl, rx, ry⟩ := SlVs.two r1
      have ra : RpAll X.K H (Mo C ρ) [vx, vy] [x, y] := .cons rx (.cons ry .nil)
      cases r with
      | cons q1 q2 =>
        cases q2 with
        | cons q2 q3 =>
          cases q3
          rename_i u1 u2
          have rv : Vals [vx, vy] [u1, u2] := .cons q1 (.cons q2 .nil)
          unfold minB at c
          rw [Bool.and_eq_true, Bool.and_eq_true, Bool.and_eq_true] at c
          obtain ⟨⟨⟨c1, c2⟩, c3⟩, c4⟩ := c
          have c3 := of_decide_eq_true c3
          have c4 : PyData.hasDictAll [x, y] = false := by simpa using c4
          obtain ⟨as, rr⟩ := Dp.readsAll I _ _ _ (RpAll.dp _ _ c4 ra) rv
          have ha : AlikeAll [x, y] := ⟨fun x hx y hy => List.all_eq_true.mp (List.all_eq_true.mp c1 x hx) y hy, fun x hx e => by
            have := List.all_eq_true.mp c2 x hx
            subst e
            cases this⟩
          refine min_two_at (I.ok.hd hc) rr ha (by omega) fun i u h' tk h1 h2 hk => ?_
          obtain ⟨v, hv, rp⟩ := RpAll.get ra h2
          refine ⟨v, H, I.kept hk, ?_, k _ H (Ex.refl _ _ _) S rp⟩
          have := Vals.getD rv i
          rw [List.getD_eq_getElem?_getD, hv, List.getD_eq_getElem?_getD, h1] at this
          exact this
    · cases e
  · cases e
end
theorem v_minT2 {x y : PyData} {h : Hs} (c : minB [x, y] = true) : gMinT2 [.val x, .val y] h = some (minD x [y]) := by
  show (if minB [x, y] = true then some (minD x [y]) else none) = _
  rw [if_pos c]
end FL
namespace FL
open PySem PySem.Spec PyProof.Rows L2 PySem.W
def pmAt (env : En) (ip id iw : Nat) (k : List Int) (h : Hs) : Fl := match env[id]?, env[iw]? with
  | some (some (.loc n)), some (some (.val w)) => match obQ h[n]? with
    | some kvs => if (minB [(lookQ kvs k).getD w, w] && (decide (kvs.length < 16777216) && decide (ip < env.length))) = true then .next (env.set ip (some (.val (tupI k)))) (h.set n (.dtq (putQ kvs k (minD ((lookQ kvs k).getD w) [w])))) else .bad
    | none => .bad
  | _, _ => .bad
def sPM (ip id iw : Nat) (fk : Kf) : Sv := fun env h => (fk env h).fl env fun k h => pmAt env ip id iw k h
section
variable {X : Cx} {C : Fc} {Wx : WX}
theorem rp_tupI {K : PySem.W.Frag} {H : Hp} {M : Ms} {b : Addr} {k : List Int} (hb : H b = some (.tup (k.map V.int))) (nb : ¬ M b) : Rp K H M (.ref b) (tupI k) := by
  refine .tup (.inl ⟨.inl hb, nb⟩) ?_
  clear hb nb
  induction k with
  | nil => exact .nil
  | cons i k ih => exact .cons (.int i) ih
theorem fss_pm {e1 : Expr} {fk : Kf} {ip id iw : Nat} {xp xd xw : Str} {q1 q2 q3 q4 q5 q6 apos cpos mpos pos1 pos2 : Pos} (hc : X.calm = true) (hu : X.A.units + 65 < cLine) (hN : X.N.Nodup) (hp : X.N[ip]? = some xp) (hpL : Loc X.env.scope xp) (hpF : X.fn xp = true ∨ X.env.scope.names.lookup xp = some .local)
    (hd : X.N[id]? = some xd) (hdV : Vis X.env.scope xd) (hw : X.N[iw]? = some xw) (hwV : Vis X.env.scope xw) (n1 : ip ≠ id) (n2 : ip ≠ iw)
    (d1 : (xp == ("__debug__" : Str)) = false) (d2 : (xp == ("__classdict__" : Str)) = false) (d3 : (xd == ("__debug__" : Str)) = false) (d4 : (xd == ("__classdict__" : Str)) = false) (d5 : (xw == ("__debug__" : Str)) = false) (d6 : (xw == ("__classdict__" : Str)) = false)
    (hk : FKy X C Wx e1 fk) (hg : Gl X "min") (hm : X.mg "min" = none)
    (hs1 : swapsWith e1 (some (.Name xp q1)) pos1.line X.env = pure false := by rfl)
    (m : M2 X (.Name xd q2) "get" apos (.Name xp q3) (.Name xw q4) cpos) {t1 t2 t3 : Pos}
    (hs3 : swapsWith (.Call (.Name "min" mpos) [.Call (.Attribute (.Name xd q2) "get" apos) [.Name xp q3, .Name xw q4] [] cpos, .Name xw q5] [] q6) (some (.Subscript (.Name xd t1) (.Name xp t2) t3)) pos2.line X.env = pure false := by rfl)
    (st1 : starEach [.Call (.Attribute (.Name xd q2) "get" apos) [.Name xp q3, .Name xw q4] [] cpos, .Name xw q5] X.env = (false, eval (.Call (.Attribute (.Name xd q2) "get" apos) [.Name xp q3, .Name xw q4] [] cpos) X.env) :: starEach [.Name xw q5] X.env := by rfl)
    (st2 : starEach [.Name xw q5] X.env = (false, eval (.Name xw q5) X.env) :: starEach [] X.env := by rfl) (st3 : (backTo q6 (starEach [.Name xw q5] X.env)).any (·.1) = false := by rfl) :
    FSs X C Wx [.Assign [.Name xp q1] e1 pos1, .Assign [.Subscript (.Name xd t1) (.Name xp t2) t3] (.Call (.Name "min" mpos) [.Call (.Attribute (.Name xd q2) "get" apos) [.Name xp q3, .Name xw q4] [] cpos, .Name xw q5] [] q6) pos2] (sPM ip id iw fk) := by
  have vd : ∀ {q : Pos}, PE X (.Name xd q) (tVar id) := fun {q} => pe_var hd hdV d3 d4
  have vp : ∀ {q : Pos}, PE X (.Name xp q) (tVar ip) := fun {q} => pe_var hp (hpL.imp (fun z => z) (fun z => .inl z)) d1 d2
  have vw : ∀ {q : Pos}, PE X (.Name xw q) (tVar iw) := fun {q} => pe_var hw hwV d5 d6
  have mv := pe_callB (X := X) (x := "min") (id := "min") (p := mpos) (pos := q6) (c_minT2 (C := C) hc hu) hg hm (by decide +kernel) (pa_cons (pe_dget2 (by omega) (vd (q := q2)) (vp (q := q3)) (vw (q := q4)) m) (pa_cons (vw (q := q5)) pa_nil st2) st1) (by decide) (by decide) st1 st3
  refine PSs.imp (pss_cons (ps_set hN hp hpL hk hs1 hpF) (pss_one (ps_dput (by omega) (vd (q := t1)) (vp (q := t2)) mv hs3))) fun D σ H p => ?_
  obtain ⟨ρ, env, h, S, E, P⟩ := p
  have P' : PoS X.K X.mg C Wx D ρ H ((fk env h).fl env fun k h => pmAt env ip id iw k h) := P
  refine ⟨ρ, env, h, S, E, ?_⟩
  cases qk : fk env h with
  | bad => rw [qk] at P'; exact P'
  | err y h2 => rw [qk] at P'; exact fun ρ' H' cls d s S' q => P' ρ' σ H' cls d s.stp S' (E.ex s) q
  | ok k h1 =>
    rw [qk] at P'
    intro ρ1 v H1 x1 S1 r1
    obtain ⟨b, rfl, hb, nb⟩ := r1
    have P1 : PoS X.K X.mg C Wx D ρ H (pmAt env ip id iw k h1) := P'
    have E1 := E.ex x1
    unfold pmAt at P1
    split at P1
    · rename_i n w es1 es2
      split at P1
      · rename_i kvs eo
        split at P1
        · rename_i c
          rw [Bool.and_eq_true, Bool.and_eq_true, decide_eq_true_eq, decide_eq_true_eq] at c
          obtain ⟨vd', ed, rdd⟩ := E1.at_ id _ es1
          obtain ⟨vw', ew, rw_⟩ := E1.at_ iw _ es2
          obtain ⟨n', a, vs, en, rfl, e1', e2', hD, hkk, hvv⟩ := dq_rel (s := .loc n) S1 rdd (by rw [v_dqS, eo])
          cases en
          have sd : (σ.set ip (some (V.ref b)))[id]? = some (some (.ref a)) := by rw [List.getElem?_set_ne n1]; exact ed
          have sw : (σ.set ip (some (V.ref b)))[iw]? = some (some vw') := by rw [List.getElem?_set_ne n2]; exact ew
          have lp : ip < σ.length := by rw [← E1.len]; exact c.2.2
          have sp : (σ.set ip (some (V.ref b)))[ip]? = some (some (.ref b)) := by rw [List.getElem?_set_self lp]
          have lk := look_relQ (k := k) hkk hvv
          have hbk : H1 b = some (.tup ((k.map (Sum.inl : Int → Key)).map kV)) := by rw [kv_int]; exact hb
          refine ⟨.ref a, sd, a, rfl, .inr ⟨vs, .inl hD⟩, .ref b, sp, vw', sw, valV vs (k.map Sum.inl), DGet.t hD hbk, vw', sw, ?_⟩
          have ro : Rp X.K H1 (Mo C ρ1) ((valV vs (k.map Sum.inl)).getD vw') ((lookQ kvs k).getD w) := by
            cases q : lookQ kvs k with
            | none => rw [q] at lk; rw [lk]; exact rw_
            | some d0 =>
              rw [q] at lk
              obtain ⟨v0, l1, l2⟩ := lk
              rw [l1]
              exact l2
          refine ⟨ρ1, h1, [.val ((lookQ kvs k).getD w), .val w], minD ((lookQ kvs k).getD w) [w], S1, .cons ro (.cons rw_ .nil), v_minT2 c.1, fun v2 H2 x2 S2 r2 => ?_⟩
          obtain ⟨nn, a2, vs2, en2, ea2, e12, e22, hD2, hk2, hv2⟩ := dq_rel (s := .loc n) S2 (SlV.ex x2 rdd) (by rw [v_dqS, eo])
          cases en2
          have : a2 = a := by cases ea2; rfl
          subst this
          have hb2 : H2 b = some (.tup (k.map V.int)) := by
            obtain ⟨o', e', kk⟩ := x2.stp.keepK b _ hb nb
            rw [e', kk.nt fun _ z => nomatch z]
          refine ⟨.ref a2, sd, .ref b, sp, a2, upd H2 a2 (.dT (putK vs2 (k.map Sum.inl) v2)), rfl, .inr ⟨vs2, k.map Sum.inl, b, hD2, rfl, by rw [kv_int]; exact hb2, by
            have : vs2.length = kvs.length := by
              have := congrArg List.length hk2
              simpa using this
            rw [sizeLine_eq]
            omega, rfl⟩, ?_⟩
          have st : Stp (Mo C ρ1) H2 (Mo C ρ1) (upd H2 a2 (.dT (putK vs2 (k.map Sum.inl) v2))) := ⟨keepE fun c u z nm => by
            have : c ≠ a2 := fun w => nm (w ▸ .inl (flat_at e1' (by simp)))
            rw [upd_ne this]; exact z, fun _ mm => .inl mm⟩
          obtain ⟨p1, p2⟩ := dput_relQ (k := k) r2 hk2 hv2
          have W := S2.write (ob := .dtq (putQ kvs k (minD ((lookQ kvs k).getD w) [w]))) (o := .dT (putK vs2 (k.map Sum.inl) v2)) e1' ⟨a2, _, rfl, upd_same, p1, p2.stp st⟩
          exact P1 ρ1 _ _ ((x1.stp.trans x2.stp).trans W.2.stp) W.1 (((E1.set (s := .val (tupI k)) (rp_tupI hb nb) ip).ex x2).ex W.2)
        · exact P1.elim
      · exact P1.elim
    · exact P1.elim
end
end FL
namespace FL
open PySem PySem.Spec PyProof.Rows L2 PySem.W
theorem mem_set1 : ∀ {ρ : Fps} {n : Nat} {a b : Addr}, b ∈ (ρ.set n [a]).flatten → b = a ∨ b ∈ ρ.flatten
  | [], n, a, b, m => by simp at m
  | fp :: ρ, 0, a, b, m => by
    rw [List.set_cons_zero, List.flatten_cons, List.mem_append] at m
    rw [List.flatten_cons, List.mem_append]
    rcases m with m | m
    · exact .inl (List.mem_singleton.mp m)
    · exact .inr (.inr m)
  | fp :: ρ, n + 1, a, b, m => by
    rw [List.set_cons_succ, List.flatten_cons, List.mem_append] at m
    rw [List.flatten_cons, List.mem_append]
    rcases m with m | m
    · exact .inr (.inl m)
    · exact (mem_set1 m).imp id .inr
theorem nd_set1 : ∀ {ρ : Fps} {n : Nat} {a : Addr}, ρ.flatten.Nodup → a ∉ ρ.flatten → (ρ.set n [a]).flatten.Nodup
  | [], n, a, h, _ => by simp
  | fp :: ρ, 0, a, h, ha => by
    rw [List.flatten_cons, List.nodup_append] at h
    rw [List.flatten_cons, List.mem_append] at ha
    rw [List.set_cons_zero, List.flatten_cons, List.nodup_append]
    exact ⟨by simp, h.2.1, fun x hx y hy z => by
      rw [List.mem_singleton] at hx
      subst hx z
      exact ha (.inr hy)⟩
  | fp :: ρ, n + 1, a, h, ha => by
    rw [List.flatten_cons, List.nodup_append] at h
    rw [List.flatten_cons, List.mem_append] at ha
    rw [List.set_cons_succ, List.flatten_cons, List.nodup_append]
    refine ⟨h.1, nd_set1 h.2.1 fun z => ha (.inr z), fun x hx y hy z => ?_⟩
    subst z
    rcases mem_set1 hy with e | e
    · exact ha (.inl (e ▸ hx))
    · exact h.2.2 x hx x e rfl
/-- no data stands there -/
structure NoD (H : Hp) (a : Addr) : Prop where
  lst : ∀ xs, ¬ Rd H a (.lst xs)
  tup : ∀ xs, ¬ Rd H a (.tup xs)
  dct : ∀ ps, H a ≠ some (.dK ps)
  ext : ∀ f, H a ≠ some (.ext f)
theorem noD_dT {H : Hp} {a : Addr} {vs : List (List Key × V)} (e : H a = some (.dT vs)) : NoD H a where
  lst := by
    rintro xs (z | ⟨o, z⟩) <;> rw [e] at z <;> cases z
  tup := by
    rintro xs (z | ⟨o, z⟩) <;> rw [e] at z <;> cases z
  dct := fun ps z => by rw [e] at z; cases z
  ext := fun f z => by rw [e] at z; cases z
theorem noD_fz {H : Hp} {a : Addr} {o : Obj} {vs : List (List Key × V)} (e : H a = some (.frz o (.dT vs))) : NoD H a where
  lst := by
    rintro xs (z | ⟨o, z⟩) <;> rw [e] at z <;> cases z
  tup := by
    rintro xs (z | ⟨o, z⟩) <;> rw [e] at z <;> cases z
  dct := fun ps z => by rw [e] at z; cases z
  ext := fun f z => by rw [e] at z; cases z
theorem rd_other {H : Hp} {a b : Addr} {o u : HO} (n : b ≠ a) (r : Rd H b u) : Rd (upd H a o) b u := r.imp (fun z => by rw [upd_ne n]; exact z) fun ⟨x, z⟩ => ⟨x, by rw [upd_ne n]; exact z⟩
section
variable {K : PySem.W.Frag} {C : Fc} {ρ ρ' : Fps} {h : Hs} {H : Hp}
theorem ql_chg {M M' : Ms} {a b : Addr} {o : HO} {xs : List V} (nd : NoD H a) (f : ∀ b, M' b → b = a ∨ M b) (q : QL K H M b xs) : QL K (upd H a o) M' b xs := by
  rcases q with ⟨q, n⟩ | q
  · have nb : b ≠ a := fun z => nd.lst xs (z ▸ q)
    exact .inl ⟨rd_other nb q, fun m => (f b m).elim nb n⟩
  · exact .inr q
theorem qt_chg {M M' : Ms} {a b : Addr} {o : HO} {xs : List V} (nd : NoD H a) (f : ∀ b, M' b → b = a ∨ M b) (q : QT K H M b xs) : QT K (upd H a o) M' b xs := by
  rcases q with ⟨q, n⟩ | q
  · have nb : b ≠ a := fun z => nd.tup xs (z ▸ q)
    exact .inl ⟨rd_other nb q, fun m => (f b m).elim nb n⟩
  · exact .inr q
theorem qd_chg {M M' : Ms} {a b : Addr} {o : HO} {ps : Fz} (nd : NoD H a) (f : ∀ b, M' b → b = a ∨ M b) (q : QD H M b ps) : QD (upd H a o) M' b ps := by
  cases ps with
  | dic ps =>
    obtain ⟨q, n⟩ := q
    have nb : b ≠ a := fun z => nd.dct _ (z ▸ q)
    exact ⟨by rw [upd_ne nb]; exact q, fun m => (f b m).elim nb n⟩
  | lam x k =>
    obtain ⟨c, s, q1, n1, q2, n2⟩ := q
    have nb : b ≠ a := fun z => nd.ext _ (z ▸ q1)
    have nc : c ≠ a := fun z => nd.ext _ (z ▸ q2)
    exact ⟨c, s, by rw [upd_ne nb]; exact q1, fun m => (f b m).elim nb n1, by rw [upd_ne nc]; exact q2, fun m => (f c m).elim nc n2⟩
theorem Rp.chg {M M' : Ms} {a : Addr} {o : HO} {d : PyData} {v : V} (nd : NoD H a) (f : ∀ b, M' b → b = a ∨ M b) (r : Rp K H M v d) : Rp K (upd H a o) M' v d := Rp.map (fun _ _ => ql_chg nd f) (fun _ _ => qt_chg nd f) (fun _ _ => qd_chg nd f) d v r
theorem RpAll.chg {M M' : Ms} {a : Addr} {o : HO} {ds : List PyData} {vs : List V} (nd : NoD H a) (f : ∀ b, M' b → b = a ∨ M b) (r : RpAll K H M vs ds) : RpAll K (upd H a o) M' vs ds := RpAll.map (fun _ _ => ql_chg nd f) (fun _ _ => qt_chg nd f) (fun _ _ => qd_chg nd f) ds vs r
theorem ObOk.chg {M M' : Ms} {a : Addr} {o : HO} {fp : List Addr} {ob : Ob} (nd : NoD H a) (f : ∀ b, M' b → b = a ∨ M b) (na : a ∉ fp) (x : ObOk K H M fp ob) : ObOk K (upd H a o) M' fp ob := by
  cases ob with
  | lst ds =>
    obtain ⟨b, vs, rfl, e, r⟩ := x
    exact ⟨b, vs, rfl, by rw [upd_ne (fun z => na (by simp [z]))]; exact e, r.chg nd f⟩
  | dic kvs =>
    obtain ⟨b, vs, rfl, e, q, r⟩ := x
    exact ⟨b, vs, rfl, by rw [upd_ne (fun z => na (by simp [z]))]; exact e, q, r.chg nd f⟩
  | lls dss =>
    obtain ⟨b, bs, rfl, e, l, w⟩ := x
    refine ⟨b, bs, rfl, by rw [upd_ne (fun z => na (by simp [z]))]; exact e, l, fun i c ds e1 e2 => ?_⟩
    obtain ⟨vs, e3, r⟩ := w i c ds e1 e2
    have nc : c ≠ a := fun z => na (List.mem_cons_of_mem _ (z ▸ List.mem_of_getElem? e1))
    exact ⟨vs, by rw [upd_ne nc]; exact e3, r.chg nd f⟩
  | dil dss ks =>
    obtain ⟨b, bs, rfl, e, u, l, w⟩ := x
    refine ⟨b, bs, rfl, by rw [upd_ne (fun z => na (by simp [z]))]; exact e, u, l, fun i c ds e1 e2 => ?_⟩
    obtain ⟨vs, e3, r⟩ := w i c ds e1 e2
    have nc : c ≠ a := fun z => na (List.mem_cons_of_mem _ (z ▸ List.mem_of_getElem? e1))
    exact ⟨vs, by rw [upd_ne nc]; exact e3, r.chg nd f⟩
  | dtp ks =>
    obtain ⟨b, rfl, e⟩ := x
    exact ⟨b, rfl, by rw [upd_ne (fun z => na (by simp [z]))]; exact e⟩
  | dtq kvs =>
    obtain ⟨b, vs, rfl, e, q, r⟩ := x
    exact ⟨b, vs, rfl, by rw [upd_ne (fun z => na (by simp [z]))]; exact e, q, r.chg nd f⟩
  | gone => exact x
/-- what stands at an address that is no object's is changed -/
theorem SimH.poke2 (S : SimH K C ρ h H) {a : Addr} {o u : HO} (na : a ∉ ρ.flatten) (h0 : C.H0 a = none) (nb : ¬ C.Bar a) (nw : a ∉ C.W.flatten) (nd : NoD H a) (eu : H a = some u) (nt : ∀ ps, u ≠ .tbl ps) : SimH K C ρ h (upd H a o) where
  len := S.len
  nd := S.nd
  trk := fun b m => by
    have nq : b ≠ a := fun z => na (z ▸ m)
    rw [upd_ne nq]
    exact S.trk b m
  obj := fun n fp x e1 e2 => ObOk.chg nd (fun b m => .inr m) (fun z => na (flat_at e1 z)) (S.obj n fp x e1 e2)
  frK := fun b x e n => by
    have : b ≠ a := fun z => by rw [z, h0] at e; cases e
    rw [upd_ne this]
    exact S.frK b x e n
  own := S.own
  bar := fun b m => ⟨(S.bar b m).1, by
    have nq : b ≠ a := fun z => nb (z ▸ m)
    rw [upd_ne nq]
    exact (S.bar b m).2⟩
  wtr := fun b m => by
    have nq : b ≠ a := fun z => nw (z ▸ m)
    rw [upd_ne nq]
    exact S.wtr b m
  pre := S.pre
  tab := fun p hp => by
    obtain ⟨ps, e1, e2, e3⟩ := S.tab p hp
    have : p.1 ≠ a := fun z => by
      rw [z, eu] at e1
      cases e1
      exact nt _ rfl
    refine ⟨ps, by rw [upd_ne this]; exact e1, e2, fun q cv hq => ?_⟩
    obtain ⟨c, e4, e5⟩ := e3 q cv hq
    have : c ≠ a := fun z => nd.ext _ (z ▸ e5)
    exact ⟨c, e4, by rw [upd_ne this]; exact e5⟩
  bnt := fun b xs m z => by
    have nq : b ≠ a := fun z => nb (z ▸ m)
    rw [upd_ne nq] at z
    exact S.bnt b xs m z
/-- .. and is one again -/
theorem SimH.backQ (S : SimH K C ρ h H) {n : Nat} {a : Addr} {ob : Ob} (hn : C.W.length ≤ n) (er : ρ[n]? = some []) (na : a ∉ ρ.flatten) (h0 : C.H0 a = none) (nb : ¬ C.Bar a) (x : ObOk K H (Mo C (ρ.set n [a])) [a] ob) (nd : NoD H a) (tr : ∃ u, H a = some u) : SimH K C (ρ.set n [a]) (h.set n ob) H := by
  have lt : n < ρ.length := (List.getElem?_eq_some_iff.mp er).1
  have eq : upd H a ((H a).getD (.rng 0 0)) = H := by
    funext b
    by_cases z : b = a
    · subst z
      obtain ⟨u, eu⟩ := tr
      rw [upd_same, eu]
      rfl
    · rw [upd_ne z]
  refine ⟨by rw [List.length_set, List.length_set]; exact S.len, nd_set1 S.nd na, fun b m => ?_, fun k fp y e1 e2 => ?_, S.frK, fun b m => ?_, fun b m => ⟨fun z => ?_, (S.bar b m).2⟩, S.wtr, fun k fp e => ?_, S.tab, S.bnt⟩
  · rcases mem_set1 m with rfl | m
    · exact tr
    · exact S.trk b m
  · by_cases q : n = k
    · subst q
      rw [List.getElem?_set_self lt] at e1
      rw [List.getElem?_set_self (by rw [← S.len]; exact lt)] at e2
      cases e1
      cases e2
      exact x
    · rw [List.getElem?_set_ne q] at e1 e2
      have := ObOk.chg (o := (H a).getD (.rng 0 0)) (M' := Mo C (ρ.set n [a])) nd (fun b m => by
        rcases m with m | m
        · exact (mem_set1 m).imp id .inl
        · exact .inr (.inr m)) (fun z => na (flat_at e1 z)) (S.obj k fp y e1 e2)
      rw [eq] at this
      exact this
  · rcases mem_set1 m with rfl | m
    · exact .inr h0
    · exact S.own b m
  · rcases mem_set1 z with rfl | z
    · exact nb m
    · exact (S.bar b m).1 z
  · have e' := S.pre k fp e
    have := (List.getElem?_eq_some_iff.mp e).1
    rw [List.getElem?_set_ne (by omega)]
    exact e'
theorem SimH.noFz (S : SimH K C ρ h H) {a : Addr} {o : Obj} {u : HO} (e : H a = some (.frz o u)) : a ∉ ρ.flatten := fun m => by
  obtain ⟨fp, h1, h2⟩ := List.mem_flatten.mp m
  obtain ⟨n, hn, en⟩ := List.getElem_of_mem h1
  have hl : n < h.length := by rw [← S.len]; exact hn
  have x := S.obj n fp _ (by rw [← en]; exact List.getElem?_eq_getElem hn) (List.getElem?_eq_getElem hl)
  cases q : h[n] with
  | lst ds =>
    rw [q] at x
    obtain ⟨b, vs, rfl, e2, _⟩ := x
    rw [List.mem_singleton.mp h2, e2] at e
    cases e
  | dic ds =>
    rw [q] at x
    obtain ⟨b, vs, rfl, e2, _⟩ := x
    rw [List.mem_singleton.mp h2, e2] at e
    cases e
  | lls dss =>
    rw [q] at x
    obtain ⟨b, bs, rfl, e2, l, w⟩ := x
    rcases List.mem_cons.mp h2 with z | z
    · rw [z, e2] at e; cases e
    · obtain ⟨i, hi, ei⟩ := List.getElem_of_mem z
      obtain ⟨vs, e3, _⟩ := w i a dss[i] (by rw [← ei]; exact List.getElem?_eq_getElem hi) (List.getElem?_eq_getElem (by omega))
      rw [e3] at e; cases e
  | dil dss ks =>
    rw [q] at x
    obtain ⟨b, bs, rfl, e2, _, l, w⟩ := x
    rcases List.mem_cons.mp h2 with z | z
    · rw [z, e2] at e; cases e
    · obtain ⟨i, hi, ei⟩ := List.getElem_of_mem z
      obtain ⟨vs, e3, _⟩ := w i a dss[i] (by rw [← ei]; exact List.getElem?_eq_getElem hi) (List.getElem?_eq_getElem (by omega))
      rw [e3] at e; cases e
  | dtp ks =>
    rw [q] at x
    obtain ⟨b, rfl, e2⟩ := x
    rw [List.mem_singleton.mp h2, e2] at e
    cases e
  | dtq ks =>
    rw [q] at x
    obtain ⟨b, vs, rfl, e2, _⟩ := x
    rw [List.mem_singleton.mp h2, e2] at e
    cases e
  | gone =>
    rw [q] at x
    rw [show fp = [] from x] at h2
    cases h2
end
end FL
namespace FL
open PySem PySem.Spec PyProof.Rows L2 PySem.W
def dropS (n : Nat) (s : Slot) : Slot := match s with
  | some (.loc m) => if m = n then none else s
  | some (.inn m _) => if m = n then none else s
  | _ => s
def compQ (w : Nat) (t : Tg) (vs : List Nat) (tt : Tv) (fe : Ev) (env : En) (s : Sl) (h : Hs) : Rz Sl := match s with
  | .loc n => match obQ h[n]? with
    | some kvs => if w ≤ n then (match compL t tt fe (wipeE (env.map (dropS n)) vs) (kvs.map fun p => tupI p.1) [] (h.set n .gone) with
      | .ok out h2 => (match h2[n]? with
        | some .gone => .ok (.val (.list out)) (h2.set n (.dtq kvs))
        | _ => .bad)
      | _ => .bad) else .bad
    | none => .bad
  | _ => .bad
def eCompQ (w id : Nat) (t : Tg) (vs : List Nat) (tt : Tv) (fe : Ev) : Ev := fun env h => match env[id]? with
  | some (some s) => compQ w t vs tt fe env s h
  | _ => .bad
section
variable {K : PySem.W.Frag} {C : Fc} {ρ : Fps} {h : Hs} {H : Hp}
theorem drop_some {n : Nat} {s : Slot} {t : Sl} (e : dropS n s = some t) : s = some t ∧ t ≠ .loc n ∧ ∀ i, t ≠ .inn n i := by
  unfold dropS at e
  split at e
  · rename_i m
    split at e
    · cases e
    · rename_i q
      cases e
      exact ⟨rfl, fun z => q (by cases z; rfl), fun i z => nomatch z⟩
  · rename_i m i
    split at e
    · cases e
    · rename_i q
      cases e
      exact ⟨rfl, (fun z => nomatch z), fun i z => q (by cases z; rfl)⟩
  · rename_i e1 e2
    subst e
    exact ⟨rfl, fun z => e1 n (by rw [z]), fun i z => e2 n i (by rw [z])⟩
theorem SimH.apartW (S : SimH K C ρ h H) {n : Nat} {fp : List Addr} {a : Addr} (hn : C.W.length ≤ n) (e : ρ[n]? = some fp) (ma : a ∈ fp) : a ∉ C.W.flatten := fun m => by
  obtain ⟨fq, h1, h2⟩ := List.mem_flatten.mp m
  obtain ⟨k, hk, ek⟩ := List.getElem_of_mem h1
  have e2 := S.pre k fq (by rw [← ek]; exact List.getElem?_eq_getElem hk)
  have : n = k := nodup_apart S.nd e e2 ma h2
  omega
end
section
variable {X : Cx} {C : Fc} {Wx : WX} {elt tg : Expr} {ifs : List Expr} {scope : Scope} {own : List (Str × Nat)} {pos q : Pos} {t : Tg} {tt : Tv} {fe : Ev}
theorem fe_compQ {w id : Nat} {xd : Str} (hc : X.calm = true) (hN : X.N.Nodup) (hW : C.W.length ≤ w) (hd : X.N[id]? = some xd) (hdV : Vis X.env.scope xd) (d3 : (xd == ("__debug__" : Str)) = false) (d4 : (xd == ("__classdict__" : Str)) = false) (ok : BlkOk X.N X.env.scope scope own)
    (hg : ∀ (s : Shared) (H : Hp) (Cc : Addr) (cl : List (Str × Addr)) (fp : List Addr), FG (X.blk s H scope (compEnvC scope cl Cc X.env) fp) tg t)
    (ht : ∀ (C' : Fc) (_ : C'.T = C.T) (s : Shared) (H : Hp) (Cc : Addr) (cl : List (Str × Addr)) (fp : List Addr), FTs (X.blk s H scope (compEnvC scope cl Cc X.env) fp) C' W0 ifs tt)
    (he : ∀ (C' : Fc) (_ : C'.T = C.T) (s : Shared) (H : Hp) (Cc : Addr) (cl : List (Str × Addr)) (fp : List Addr), FE (X.blk s H scope (compEnvC scope cl Cc X.env) fp) C' W0 elt fe)
    (hsl : ∀ i ∈ t.slots, i ∈ own.map (·.2) := by decide) (hs : ∀ x, foldedSetIterable (.Name xd q) X.env x = pure x := by intro _; rfl) :
    FE X C Wx (.ListComp elt [⟨tg, .Name xd q, ifs, 0⟩] scope pos) (eCompQ w id t (own.map (·.2)) tt fe) :=
  PE.imp (pe_lock (pe_lc (tt := fun σ H Q => ∃ C', C'.T = C.T ∧ rd X.K X.mg C' W0 relT tt σ H Q) (te := fun σ H Q => ∃ C', C'.T = C.T ∧ rd X.K X.mg C' W0 (relE X.K C') fe σ H Q) hc hN (pi_keys (pe_var hd hdV d3 d4)) ok hg
    (fun s H Cc cl fp => ⟨fun pins s' σ H Q I ⟨C', z, q⟩ => (ht C' z s _ Cc cl fp).run pins s' σ H Q I q⟩) (fun s H Cc cl fp => ⟨fun pins s' σ H Q I ⟨C', z, q⟩ => (he C' z s _ Cc cl fp).run pins s' σ H Q I q⟩) hs)) fun σ H Q p => by
  obtain ⟨ρ, env, h, S, E, P⟩ := p
  have P' : Po X.K X.mg C Wx σ ρ H (relE X.K C) (match env[id]? with
    | some (some s) => compQ w t (own.map (·.2)) tt fe env s h
    | _ => (.bad : Rz Sl)) Q := P
  split at P'
  · rename_i s es
    unfold compQ at P'
    split at P'
    · rename_i n
      cases qo : obQ h[n]? with
      | none => rw [qo] at P'; exact P'.elim
      | some kvs =>
        rw [qo] at P'
        dsimp only at P'
        split at P'
        · rename_i hw
          have hn : C.W.length ≤ n := Nat.le_trans hW hw
          obtain ⟨vd, ed, rdd⟩ := E.at_ id _ es
          obtain ⟨n', a, vs, en, rfl, e1, e2, hD, hk, hv⟩ := dq_rel (s := .loc n) S rdd (by rw [v_dqS, qo])
          cases en
          have ma : a ∈ ρ.flatten := flat_at e1 (by simp)
          have naW : a ∉ C.W.flatten := S.apartW hn e1 (by simp)
          have h0 : C.H0 a = none := (S.own a ma).resolve_left naW
          have nb : ¬ C.Bar a := fun z => (S.bar a z).1 ma
          have na : a ∉ (ρ.set n []).flatten := fun z => Mo.out S e1 (by simp) (.inl z)
          refine ⟨a, .dT vs, hD, trivial, fun od => ?_⟩
          have S1 : SimH X.K C (ρ.set n []) (h.set n .gone) (upd H a (.frz od (.dT vs))) := (S.gone hn).poke2 na h0 nb naW (noD_dT hD) hD (fun ps z => nomatch z)
          have E1 : EnvOk X.K C (ρ.set n []) (upd H a (.frz od (.dT vs))) (env.map (dropS n)) σ := ⟨by rw [List.length_map]; exact E.len, fun i s ei => by
            rw [List.getElem?_map] at ei
            obtain ⟨s0, ei0, ei1⟩ := Option.map_eq_some_iff.mp ei
            obtain ⟨rfl, z1, z2⟩ := drop_some ei1
            obtain ⟨v, ev, r⟩ := E.at_ i _ ei0
            refine ⟨v, ev, ?_⟩
            cases s with
            | val d => exact Rp.chg (noD_dT hD) (fun b m => .inr (Mo.gone m)) r
            | loc m =>
              obtain ⟨fp, b, q1, q2, q3⟩ := r
              exact ⟨fp, b, by rw [List.getElem?_set_ne (fun z => z1 (by rw [z]))]; exact q1, q2, q3⟩
            | inn m j =>
              obtain ⟨fp, b, q1, q2, q3⟩ := r
              exact ⟨fp, b, by rw [List.getElem?_set_ne (fun z => z2 j (by rw [z]))]; exact q1, q2, q3⟩
            | exn x => exact r⟩
          have res : tLc (rd X.K X.mg C Wx (relI X.K C) fun _ h => .ok (kvs.map fun p => tupI p.1) h) (t.rd X.K) (fun σ H Q => ∃ C', C'.T = C.T ∧ rd X.K X.mg C' W0 relT tt σ H Q) (fun σ H Q => ∃ C', C'.T = C.T ∧ rd X.K X.mg C' W0 (relE X.K C') fe σ H Q) (own.map (·.2)) σ (upd H a (.frz od (.dT vs))) fun v H' => H' a = some (.frz od (.dT vs)) ∧ Q v (upd H' a (.dT vs)) := by
            refine lc_read (g := fun out h2 => match h2[n]? with
              | some .gone => (.ok (.val (.list out)) h2 : Rz Sl)
              | _ => .bad) hsl (fun C' z _ _ _ q => ⟨C', z, q⟩) (fun C' z _ _ _ q => ⟨C', z, q⟩) (fun D ρ1 ρ H1 H env acc h av σ' h1 s1 hD M PP => ?_) ⟨ρ.set n [], env.map (dropS n), h.set n .gone, S1, E1, ?_⟩
            · have PP' : Po X.K X.mg C Wx σ ρ1 H1 (relE X.K C) (match h[n]? with
                | some .gone => (.ok (.val (.list acc)) h : Rz Sl)
                | _ => .bad) _ := PP
              split at PP'
              · exact lc_val D ρ1 ρ H1 H env acc h av σ' h1 s1 hD M PP'
              · exact PP'.elim
            · show Po X.K X.mg C Wx σ (ρ.set n []) _ (relE X.K C) (Rz.bind (compL t tt fe (wipeE (env.map (dropS n)) (own.map (·.2))) (kvs.map fun p => tupI p.1) [] (h.set n .gone)) fun out h2 => match h2[n]? with
                | some .gone => (.ok (.val (.list out)) h2 : Rz Sl)
                | _ => .bad) _
              cases q : compL t tt fe (wipeE (env.map (dropS n)) (own.map (·.2))) (kvs.map fun p => tupI p.1) [] (h.set n .gone) with
              | bad => rw [q] at P'; exact P'.elim
              | err y h2 => rw [q] at P'; exact P'.elim
              | ok out h2 =>
                rw [q] at P'
                dsimp only at P'
                show Po X.K X.mg C Wx σ (ρ.set n []) _ (relE X.K C) (match h2[n]? with
                  | some .gone => (.ok (.val (.list out)) h2 : Rz Sl)
                  | _ => .bad) _
                split at P'
                · rename_i eg
                  intro ρ4 v H4 x4 S4 r4
                  have nm : ¬ Mo C (ρ.set n []) a := Mo.out S e1 (by simp)
                  have h4 : H4 a = some (.frz od (.dT vs)) := by
                    obtain ⟨o', e', kk⟩ := x4.stp.keepK a _ upd_same nm
                    rw [e', kk.nt fun _ z => nomatch z]
                  refine ⟨h4, ?_⟩
                  obtain ⟨fp', ef, _⟩ := x4.root n [] (by rw [List.getElem?_set_self (List.getElem?_eq_some_iff.mp e1).1])
                  have e0 : fp' = [] := S4.obj n fp' _ ef eg
                  subst e0
                  have na4 : a ∉ ρ4.flatten := S4.noFz h4
                  have fM : ∀ b, Mo C (ρ4.set n [a]) b → b = a ∨ Mo C ρ4 b := fun b m => by
                    rcases m with m | m
                    · exact (mem_set1 m).imp (fun z => z) .inl
                    · exact .inr (.inr m)
                  have st5 : Stp (Mo C ρ) H (Mo C (ρ4.set n [a])) (upd H4 a (.dT vs)) := by
                    refine ⟨fun b o eb nmb => ?_, fun b m => ?_⟩
                    · have nba : b ≠ a := fun z => nmb (z ▸ .inl ma)
                      obtain ⟨o', e', kk⟩ := x4.stp.keepK b o (by rw [upd_ne nba]; exact eb) fun m => nmb (Mo.gone m)
                      exact ⟨o', by rw [upd_ne nba]; exact e', kk⟩
                    · rcases fM b m with rfl | m
                      · exact .inl (.inl ma)
                      · rcases x4.stp.new b m with z | z
                        · exact .inl (Mo.gone z)
                        · by_cases nba : b = a
                          · exact .inl (.inl (nba ▸ ma))
                          · exact .inr (by rw [upd_ne nba] at z; exact z)
                  have S5a : SimH X.K C ρ4 h2 (upd H4 a (.dT vs)) := S4.poke2 na4 h0 nb naW (noD_fz h4) h4 (fun ps z => nomatch z)
                  have S5 := S5a.backQ (ob := .dtq kvs) hn ef na4 h0 nb ⟨a, vs, rfl, upd_same, hk, hv.stp st5⟩ (noD_dT upd_same) ⟨_, upd_same⟩
                  refine P' (ρ4.set n [a]) v _ ⟨st5, fun k fp e => ?_⟩ S5 (Rp.chg (noD_fz h4) fM r4)
                  by_cases z : n = k
                  · subst z
                    rw [e1] at e
                    cases e
                    exact ⟨[a], by rw [List.getElem?_set_self (List.getElem?_eq_some_iff.mp ef).1], pfx_rfl⟩
                  · obtain ⟨fp2, ef2, pf⟩ := x4.root k fp (by rw [List.getElem?_set_ne z]; exact e)
                    exact ⟨fp2, by rw [List.getElem?_set_ne z]; exact ef2, pf⟩
                · exact P'.elim
          refine ⟨.ref a, ed, a, od, rfl, .inr ⟨vs, upd_same, ?_⟩⟩
          obtain ⟨ρ6, env6, h6, S6, E6, P6⟩ := res
          refine P6 ρ6 (Itkt a od vs) _ (Ex.refl _ _ _) S6 ?_
          have na6 : ¬ Mo C ρ6 a := fun m => m.elim (S6.noFz upd_same) nb
          have kl : vs.length = kvs.length := by
            have := congrArg List.length hk
            simpa using this
          have stay : ∀ {M' : Ms} {H' : Hp}, Stp (Mo C ρ6) (upd H a (.frz od (.dT vs))) M' H' → H' a = some (.frz od (.dT vs)) := fun {M' H'} s => by
            obtain ⟨o', e', kk⟩ := s.keepK a _ upd_same na6
            rw [e', kk.nt fun _ z => nomatch z]
          refine ⟨fun M' H' i d s ei => ⟨stay s, ?_⟩, fun M' H' i d x H'' s ei y => ?_, fun M' H' i s hl => ⟨stay s, ?_⟩⟩
          · have := (List.getElem?_eq_some_iff.mp ei).1
            rw [List.length_map] at this
            omega
          · obtain ⟨rfl, k, v, b, ek, rfl, hb⟩ := y
            rw [List.getElem?_map] at ei
            obtain ⟨p, ep, rfl⟩ := Option.map_eq_some_iff.mp ei
            have e7 : (vs.map (·.1))[i]? = some k := by rw [List.getElem?_map, ek]; rfl
            rw [hk, List.getElem?_map, ep] at e7
            have e8 : k = p.1.map Sum.inl := (Option.some.inj e7).symm
            subst e8
            rw [kv_int] at hb
            exact .inr (.inr ⟨rfl, b, p.1, rfl, hb, rfl⟩)
          · rw [List.length_map] at hl
            omega
        · exact P'.elim
    · exact P'.elim
  · exact P'.elim
end
end FL
namespace FL
open PySem PySem.Spec PyProof.Rows L2 PySem.W
section
variable {prog : Program} {w : World} {A : Around} {E : Value → Shared → Prop} {s : Shared} {T : String} {r d : Addr} {n : Nat} {P : Nat → Value → Prop} {OK : Heap → Prop}
theorem collect_kdl {Q : List Value → Shared → Prop} (K : KdlSrc prog w T r d n P OK) (hh : A.handled = none) (hok : OK s.heap) (hn : n ≤ sizeLine)
    (hQ : ∀ h' tk (acc : Array Value), (∀ b o, s.heap.get? b = some o → h'.get? b = some o) → s.heap.objs.size ≤ h'.objs.size → ItemsOf P acc n → Q acc.toList { s with heap := h', toks := tk }) : wpAny (model prog w) A (collect (.ref r)) Q E s := by
  have hlt := K.there _ hok
  unfold collect
  refine wpAny_bind (wpAny_runValue (codeAny_builtin F.entry_proto_collect ?_))
  rw [Around.under_plainId F.plain_proto_collect _]
  show wpAny _ A.in1 (newList [] >>= fun l => again (.builtin "list.__iadd__" ⟨[l, .ref r], []⟩)) _ _ s
  refine wpAny_bind (wpAny_newObj_type ?_)
  refine wpAny_pure ⟨plainId_quiet F.plain_list_iadd _, codeAny_builtin F.entry_list_iadd ?_⟩
  rw [Around.under_plainId F.plain_list_iadd _]
  have hS : (s.heap.push { cls := .type "list", data := .seq ([] : List Value).toArray }).get? s.heap.objs.size = some { cls := .type "list", data := .seq ([] : List Value).toArray } := Heap.get?_push_size _ rfl
  show wpAny _ A.in1 (Builtin.List.listExtendWith (.ref s.heap.objs.size) (.ref r) (.ref s.heap.objs.size)) _ _ _
  refine wpAny_mono (kdl_extend (A := A) (R := fun rr s' => rr = .ok (.ret (.ref s.heap.objs.size)) ∧ ∃ (h' : Heap) (tk : Nat) (acc : Array Value) (c' : Nat), s' = { s with heap := h', toks := tk } ∧
      (∀ b o, s.heap.get? b = some o → h'.get? b = some o) ∧ h'.get? s.heap.objs.size = some { cls := .type "list", dict := none, data := .seq acc c', slots := #[] } ∧ ItemsOf P acc n)
    (s := { s with heap := s.heap.push { cls := .type "list", data := .seq ([] : List Value).toArray } }) K hh (K.keep _ _ hok fun b _ o e => Heap.get?_push_of_some _ e) s.heap.objs.size (Nat.ne_of_gt hlt.1) (Nat.ne_of_gt hlt.2) _ 0 hS
    (fun h' tk acc c' hk e hi => ⟨rfl, h', tk, acc, c', rfl, fun b o q => hk b o (Nat.ne_of_lt (Heap.lt_size q)) (Heap.get?_push_of_some _ q), e, hi⟩) hn) (fun fin s' h => ?_) (fun e s' h => ?_)
  · cases fin with
    | done f =>
      obtain ⟨e, h', tk, acc, c', rfl, hk, hS', hi⟩ := h
      cases e
      show wpAny _ A (load s.heap.objs.size >>= _) _ _ _
      exact wpAny_bind (wpAny_load hS' (wpAny_pure (hQ h' tk acc hk (Nat.le_of_lt (Heap.lt_size hS')) hi)))
    | again c' =>
      refine ⟨h.1, codeAny_mono h.2 fun rr s'' hr' => ?_⟩
      obtain ⟨rfl, h', tk, acc, c', rfl, hk, hS', hi⟩ := hr'
      show wpAny _ A (load s.heap.objs.size >>= _) _ _ _
      exact wpAny_bind (wpAny_load hS' (wpAny_pure (hQ h' tk acc hk (Nat.le_of_lt (Heap.lt_size hS')) hi)))
  · exact absurd h.1 (by simp)
/-- what is collected, sorted -/
theorem sorted_kdl {bs : List (Addr × NestedKey)} {Q : Value → Shared → Prop} (K : KdlSrc prog w T r d n P OK) (hh : A.handled = none) (hok : OK s.heap) (hn : n ≤ sizeLine) (hL : bs.length ≤ 100000) (he : ∀ acc : Array Value, ItemsOf P acc n → acc.toList = bs.map fun p => Value.ref p.1)
    (rd : ∀ p ∈ bs, Reads s.heap (.ref p.1) (datK p) []) (hal : AllAlike (bs.map datK)) (ht : ∀ p ∈ bs, ∃ xs, datK p = .tuple xs) (hu : ∀ p ∈ bs, A.units + 2 + (datK p).depth < cLine)
    (k : ∀ u p (out : Array Value) (c : Nat), (∀ b o, s.heap.get? b = some o → u.heap.get? b = some o) → u.gens = s.gens → u.os = s.os → s.heap.objs.size ≤ p →
      u.heap.get? p = some (seqObj "list" out c) → out.toList = (bs.mergeSort (dataLe false datK)).map (fun q => Value.ref q.1) → Q (.ref p) u) :
    wpAny (model prog w) A (call (.builtin "sorted") [.ref r]) Q E s := by
  refine Calls.call_function_entry kind_sorted plain_sorted entry_sorted (args_sorted1 _) ?_
  unfold Builtin.«sorted»
  refine wpAny_bind (m := checkCount "sorted" 1 1 _) (wpAny_pure ?_)
  refine wpAny_bind (collect_kdl (A := A.in1) K hh hok hn fun h1 tk acc k1 hz it => ?_)
  rw [he acc it]
  refine wpAny_bind (wpAny_newList ?_ (by rw [List.length_map, sizeLine_eq]; omega))
  have hoL : (h1.push (seqObj "list" (bs.map fun q => Value.ref q.1).toArray 0)).get? h1.objs.size = some (seqObj "list" (bs.map fun q => Value.ref q.1).toArray 0) := Heap.get?_push_size _ rfl
  refine wpAny_bind (wpAny_holding (sort_keys (s := { s with heap := h1.push (seqObj "list" (bs.map fun q => Value.ref q.1).toArray 0), toks := tk }) hoL
    (fun p m => PyProof.Rows.Reads.keeps (fun b u e => Heap.get?_push_of_some _ (k1 b u e)) (rd p m)) hal ht (by rw [sizeLine_eq]; omega) (fun p m => ?_) ?_))
  · show A.units + 1 + 1 + (datK p).depth < cLine
    have := hu p m
    omega
  · obtain ⟨c, hc⟩ := sortedHeap_at (vs := bs.map fun q => Value.ref q.1) (out := ((bs.mergeSort (dataLe false datK)).map fun p => Value.ref p.1).toArray) hoL
    refine wpAny_pure ⟨_, rfl, k _ h1.objs.size _ c (fun b u e => ?_) rfl rfl hz hc rfl⟩
    have q := k1 b u e
    have hlt := Heap.lt_size q
    show (sortedHeap (h1.push _) h1.objs.size _ _).get? b = some u
    rw [sortedHeap_old (Nat.ne_of_lt hlt) (by rw [size_push']; exact Nat.lt_succ_of_lt hlt)]
    exact Heap.get?_push_of_some _ q
end
theorem nk_all : ∀ k : List Int, NestedKey.datas (k.map NestedKey.num) = k.map PyData.int
  | [] => rfl
  | i :: k => by
    rw [List.map_cons, List.map_cons]
    unfold NestedKey.datas
    rw [nk_all k]
    rfl
theorem nk_tup (k : List Int) : (NestedKey.tup (k.map NestedKey.num)).data = tupI k := by
  unfold NestedKey.data tupI
  rw [nk_all]
theorem keysL {H : Hp} : ∀ {vs : List (List Key × V)} {kvs : List (List Int × PyData)} {xs : List (List Key × Addr × Value)}, KT H vs xs → vs.map (·.1) = kvs.map (fun p => p.1.map Sum.inl) → ∃ L : List (Addr × NestedKey), (L.map fun p => Value.ref p.1) = xs.map (fun x => Value.ref x.2.1) ∧ L.map datK = kvs.map (fun p => tupI p.1) ∧ ∀ p ∈ L, ∃ k : List Int, datK p = tupI k ∧ H p.1 = some (.tup (k.map V.int))
  | [], [], _, .nil, _ => ⟨[], rfl, rfl, fun p m => nomatch m⟩
  | [], _ :: _, _, _, e => by simp at e
  | _ :: _, [], _, _, e => by simp at e
  | v :: vs, p :: kvs, _, .cons (b := x) h t, e => by
    rw [List.map_cons, List.map_cons, List.cons.injEq] at e
    obtain ⟨L, h1, h2, h3⟩ := keysL t e.2
    have hb : H x.2.1 = some (.tup (p.1.map V.int)) := by
      have := h.2.1
      rw [e.1, kv_int] at this
      exact this
    refine ⟨(x.2.1, .tup (p.1.map .num)) :: L, by rw [List.map_cons, List.map_cons, h1], by rw [List.map_cons, List.map_cons, h2]; exact congrArg (· :: _) (nk_tup p.1), fun q m => ?_⟩
    rcases List.mem_cons.mp m with rfl | m
    · exact ⟨p.1, nk_tup p.1, hb⟩
    · exact h3 q m
def gSortQ : GL := fun ss h => match ss with
  | [s] => match dqS s h with
    | some kvs => if kvs.length ≤ 100000 then some (.list (srtD (kvs.map fun p => tupI p.1))) else none
    | none => none
  | _ => none
theorem alike_ints : ∀ a b : List Int, alikeAll (a.map PyData.int) (b.map PyData.int) = true
  | [], [] => by simp [alikeAll]
  | [], _ :: _ => by simp [alikeAll]
  | _ :: _, [] => by simp [alikeAll]
  | x :: a, y :: b => by simp [alikeAll, alike, alike_ints a b]
theorem depth_ints : ∀ a : List Int, PyData.depthAll (a.map PyData.int) = 0
  | [] => rfl
  | x :: a => by simp [PyData.depthAll, PyData.depth, depth_ints a]
section
variable {X : Cx} {C : Fc}
theorem c_sortQ (hc : X.calm = true) (hu : X.A.units + 65 < cLine) : CallR X (.builtin "sorted") (rdC X.K C gSortQ) := fun pins s σ H xs us Q I r ⟨ρ, h, ss, d, S, r1, e, k⟩ => by
  unfold gSortQ at e
  split at e
  · split at e
    · rename_i kvs ei
      split at e
      · rename_i hlen
        cases e
        obtain ⟨y, rfl, ry⟩ := SlVs.one r1
        obtain ⟨n, a, vs, rfl, rfl, _, _, hD, hk, hv⟩ := dq_rel S ry ei
        rw [Vals.ref1 r]
        obtain ⟨z, hs, ks, pr, o, es, ep, ho, hx, hdt, he, hn⟩ := (show ObjOk X.prog X.w H s.heap a (.dT vs) from I.hok a _ hD)
        obtain ⟨L, q1, q2, q3⟩ := keysL pr hk
        have l1 : es.size = ks.length := size_of_entries he
        have l2 : ks.length = L.length := by
          have := congrArg List.length q1
          simpa using this.symm
        have l3 : L.length = kvs.length := by
          have := congrArg List.length q2
          simpa using this
        have rdL : ∀ p ∈ L, Reads s.heap (.ref p.1) (datK p) [] := fun p m => by
          obtain ⟨ki, e1, e2⟩ := q3 p m
          have rp : Rp X.K H (fun _ => False) (.ref p.1) (tupI ki) := rp_tupI e2 id
          obtain ⟨as, rr⟩ := Dp.reads I _ _ _ (Rp.dp _ _ (by
            show PyData.hasDictAll _ = false
            clear e1 e2 rp
            induction ki with
            | nil => rfl
            | cons i ki ih => simp [PyData.hasDictAll, PyData.hasDict, ih]) rp) (show RelV (V.ref p.1) (Value.ref p.1) from rfl)
          have ea : as = [] := key_noas (d := tupI ki) (k := NestedKey.tup (ki.map .num)) (by
            show (keysD (ki.map PyData.int)).map NestedKey.tup = _
            have : ∀ l : List Int, keysD (l.map PyData.int) = some (l.map NestedKey.num) := fun l => by
              induction l with
              | nil => rfl
              | cons i l ih =>
                rw [List.map_cons, List.map_cons]
                unfold keysD
                rw [ih]
                rfl
            rw [this]
            rfl) rr
          rw [e1, ← ea]
          exact rr
        refine sorted_kdl (bs := L) (kdl_raw hs hx hdt) (I.ok.hd hc) ho (by rw [sizeLine_eq]; omega) (by omega) (fun acc it => ?_) rdL (fun d hd d' hd' => ?_) (fun p m => ?_) (fun p m => ?_) fun u p out c k1 g1 o1 hp hol eo => ?_
        · rw [q1]
          have hl : acc.toList.length = ks.length := by rw [Array.length_toList, it.1]; exact l1
          apply List.ext_getElem?
          intro j
          rw [List.getElem?_map]
          cases hj : acc.toList[j]? with
          | none =>
            have h1 := List.getElem?_eq_none_iff.mp hj
            rw [List.getElem?_eq_none (by omega)]
            rfl
          | some v =>
            obtain ⟨en, hen, hv⟩ := it.2 j v (by rw [← Array.getElem?_toList]; exact hj)
            have qe := entry_at he j
            rw [hen] at qe
            cases hb : ks[j]? with
            | none =>
              rw [hb] at qe
              exact nomatch (show some en = none from qe)
            | some b =>
              rw [hb] at qe
              have e2 : en = entryOfKey (tupleKind (mixKind X.prog X.w)) b := Option.some.inj qe
              rw [hv, e2]
              rfl
        · rw [q2] at hd hd'
          obtain ⟨p, _, rfl⟩ := List.mem_map.mp hd
          obtain ⟨p', _, rfl⟩ := List.mem_map.mp hd'
          show alike (.tuple _) (.tuple _) = true
          simp [alike, alike_ints]
        · obtain ⟨ki, e1, _⟩ := q3 p m
          exact ⟨_, e1⟩
        · obtain ⟨ki, e1, _⟩ := q3 p m
          rw [e1]
          have : (tupI ki).depth ≤ 1 := by simp [tupI, PyData.depth, depth_ints]
          omega
        · have len : (L.mergeSort (dataLe false datK)).length ≤ 100000 := by
            rw [List.length_mergeSort]
            omega
          have em : (L.mergeSort (dataLe false datK)).map datK = srtD (kvs.map fun p => tupI p.1) := by
            rw [List.map_mergeSort (r := dataLe false datK) (s := dataLe false id) (f := datK) (l := L) (fun a _ b _ => rfl), q2]
            rfl
          have mem : ∀ p ∈ L.mergeSort (dataLe false datK), Rp X.K H (Mo C ρ) (.ref p.1) (datK p) := fun p m => by
            obtain ⟨ki, e1, e2⟩ := q3 p (List.mem_mergeSort.mp m)
            rw [e1]
            exact rp_tupI e2 (S.free e2)
          generalize L.mergeSort (dataLe false datK) = Lo at eo len em mem
          have rp : RpAll X.K H (Mo C ρ) (Lo.map fun p => V.ref p.1) (srtD (kvs.map fun p => tupI p.1)) := by
            rw [← em]
            clear eo len em
            induction Lo with
            | nil => exact .nil
            | cons p l ih => exact .cons (mem p List.mem_cons_self) (ih fun q m => mem q (List.mem_cons_of_mem _ m))
          have rv : Vals (Lo.map fun p => V.ref p.1) out.toList := by
            rw [eo]
            clear eo len em mem rp
            induction Lo with
            | nil => exact .nil
            | cons p l ih => exact .cons rfl ih
          have I3 := I.laid (a := p) (o := .lst (Lo.map fun p => V.ref p.1)) (t' := u.toks) (h' := u.heap) k1 hp ⟨by rw [List.length_map, sizeLine_eq]; omega, out.toList, c, rv, by simpa [seqObj] using hol⟩
          have hpn := I.hok.fresh hp
          exact ⟨.ref p, upd H p (.lst (Lo.map fun p => V.ref p.1)), ⟨I3.ok, by rw [o1]; exact I3.os, by rw [g1]; exact I3.bare, I3.base, I3.loc, I3.cell, I3.free, I3.freeC, I3.pin, I3.hok, I3.len⟩, rfl, k _ _ (Ex.laid S hpn) (S.laid hpn) (Rp.newLst S hpn rp)⟩
      · cases e
    · cases e
  · cases e
end
theorem v_sortQ {s : Sl} {h : Hs} {kvs : List (List Int × PyData)} (e : dqS s h = some kvs) (hl : kvs.length ≤ 100000) : gSortQ [s] h = some (.list (srtD (kvs.map fun p => tupI p.1))) := by
  show (match dqS s h with
    | some kvs => if kvs.length ≤ 100000 then some (PyData.list (srtD (kvs.map fun p : List Int × PyData => tupI p.1))) else none
    | none => none) = _
  rw [e]
  exact if_pos hl
end FL
namespace FL
open PySem PySem.Spec PyProof.Rows L2
def b_is_among : Sv := (sRet (eAnd (cUn (gIsa "int") (eVar 0)) (eAnd (eNot (cUn (gIsa "bool") (eVar 0))) (eChain (gI fLe) (gI fLe) (eVar 1) (eVar 0) (eVar 2)))))
def m_is_among : Fm := runFn false [false, false, false] 0 b_is_among
def b_is_road : Sv := (sSeq (sIf (tOr_ (tNo (tV (cUn (gIsa "tuple") (eVar 0)))) (tOr_ (tV (cBin gNe (cCB gLen (aCons (eVar 0) aNil)) (eK (.int 4)))) (tNo (tV (cCB gAll (aCons (eComp (srcSeq (eSl (eVar 0) oNone (oSome (eK (.int 2))))) (.nm 6) [6] tTrue (eCall m_is_among [false, false, false] false (aCons (eVar 6) (aCons (eK (.int 0)) (aCons (cBin (gI fSub) (eVar 1) (eK (.int 1))) aNil))))) aNil)))))) (sRet (eK (.bool false))) sNil)
    (sSeq (sAsg (eVar 0) (.tp [(.nm 2), (.nm 3), (.nm 4), (.nm 5)]))
    (sRet (eAnd (cBin gNe (eVar 2) (eVar 3)) (eAnd (eCall m_is_among [false, false, false] false (aCons (eVar 4) (aCons (eK (.int 1)) (aCons (eK (.int 99)) aNil)))) (eCall m_is_among [false, false, false] false (aCons (eVar 5) (aCons (eK (.int 0)) (aCons (eK (.int 99)) aNil)))))))))
def m_is_road : Fm := runFn false [false, false] 5 b_is_road
def b_is_net : Sv := (sSeq (sIf (tOr_ (tNo (tV (cUn (gIsa "tuple") (eVar 0)))) (tOr_ (tV (cBin gNe (cCB gLen (aCons (eVar 0) aNil)) (eK (.int 2)))) (tNo (tV (eCall m_is_among [false, false, false] false (aCons (cBin gIx (eVar 0) (eK (.int 0))) (aCons (eK (.int 1)) (aCons (eK (.int 10)) aNil)))))))) (sRet (eK (.bool false))) sNil)
    (sSeq (sAsg (eVar 0) (.tp [(.nm 1), (.nm 2)]))
    (sRet (eAnd (cUn (gIsa "tuple") (eVar 2)) (eAnd (cBin (gI fLe) (cCB gLen (aCons (eVar 2) aNil)) (eK (.int 30))) (cCB gAll (aCons (eComp (srcSeq (eVar 2)) (.nm 3) [3] tTrue (eCall m_is_road [false, false] false (aCons (eVar 3) (aCons (eVar 1) aNil)))) aNil)))))))
def m_is_net : Fm := runFn false [false] 3 b_is_net
def b_need_net : Sv := (sIf (tNo (tV (eCall m_is_net [false] false (aCons (eVar 0) aNil)))) (sRaise "NoNet") sNil)
def m_need_net : Fm := runFn false [false] 0 b_need_net
def b_is_place : Sv := (sRet (eCall m_is_among [false, false, false] false (aCons (eVar 1) (aCons (eK (.int 0)) (aCons (cBin (gI fSub) (cBin gIx (eVar 0) (eK (.int 0))) (eK (.int 1))) aNil)))))
def m_is_place : Fm := runFn false [false, false] 0 b_is_place
def b_need_place : Sv := (sIf (tNo (tV (eCall m_is_place [false, false] false (aCons (eVar 0) (aCons (eVar 1) aNil))))) (sRaise "NoPlace") sNil)
def m_need_place : Fm := runFn false [false, false] 0 b_need_place
def b_need_ends : Sv := (sSeq (sExp (eCall m_need_net [false] false (aCons (eVar 0) aNil)))
    (sSeq (sExp (eCall m_need_place [false, false] false (aCons (eVar 0) (aCons (eVar 1) aNil))))
    (sExp (eCall m_need_place [false, false] false (aCons (eVar 0) (aCons (eVar 2) aNil))))))
def m_need_ends : Fm := runFn false [false, false, false] 0 b_need_ends
def b_roads_from : Sv := (sRet (eComp (srcRng1 (aCons (cBin gIx (eVar 0) (eK (.int 0))) aNil)) (.nm 1) [1] tTrue (eComp (srcEnum (aCons (cBin gIx (eVar 0) (eK (.int 1))) aNil)) (.tp [(.nm 2), (.nm 3)]) [2, 3] (tV (cBin gEq (cBin gIx (eVar 3) (eK (.int 0))) (eVar 1))) (eVar 2))))
def m_roads_from : Fm := runFn false [false] 3 b_roads_from
def l_pairs_from_1 : Sv := (sIf (tV (cBin gEq (eVar 8) (eVar 7))) (sExp (eMt mAppD (eSetL 0 (eVar 4) (cBin gAdd (eVar 5) (eVar 10))) (aCons (eTup (aCons (cBin gAdd (eVar 6) (eVar 11)) (aCons (eVar 9) aNil))) aNil))) sNil)
def l_pairs_from_2 : Sv := (sIf (tOr_ (tV (cBin gEq (eIxI (eVar 3) (eVar 7)) (eLst aNil))) (tV (cBin (gI fLt) (eVar 6) (cBin gIx (cBin gIx (eIxI (eVar 3) (eVar 7)) (cUn gNeg (eK (.int 1)))) (eK (.int 1)))))) (sSeq (sExp (eMt mAppI (eIxI (eVar 3) (eVar 7)) (aCons (eTup (aCons (eVar 5) (aCons (eVar 6) aNil))) aNil)))
    (sFor (srcSeq (eVar 1)) (.tp [(.nm 8), (.nm 9), (.nm 10), (.nm 11)]) l_pairs_from_1)) sNil)
def l_pairs_from_3 : Sv := (sSeq (sFor (srcSeq (cCB gSorted (aCons (ePopL (eVar 4) (eVar 5)) aNil))) (.tp [(.nm 6), (.nm 7)]) l_pairs_from_2)
    (sAug 5 (gI fAdd) (eK (.int 1))))
def b_pairs_from : Sv := (sSeq (sSet 3 (eCompE (srcRng1 (aCons (eVar 0) aNil))))
    (sSeq (sPar 4 5 (aCons (eDil1 0 0 2) (aCons (eK (.int 0)) aNil)))
    (sSeq (sWhile 1000000 (tV (cBin gNeD (eVar 4) (eK (.dict [])))) l_pairs_from_3)
    (sFrz 0 3 (sRet (cCB gTuple (aCons (eComp (srcSeq (eVar 3)) (.nm 12) [12] tTrue (cCB gTuple (aCons (eVar 12) aNil))) aNil)))))))
def m_pairs_from : Fm := runFn false [false, false, false] 10 b_pairs_from
def b_turned_about : Sv := (sRet (eComp (srcSeq (eVar 0)) (.tp [(.nm 1), (.nm 2), (.nm 3), (.nm 4)]) [1, 2, 3, 4] tTrue (eTup (aCons (eVar 2) (aCons (eVar 1) (aCons (eVar 3) (aCons (eVar 4) aNil)))))))
def m_turned_about : Fm := runFn false [false] 4 b_turned_about
def l_way_with_1 : Sv := (sSeq (sAsg (cBin gIx (cBin gIx (eVar 0) (eK (.int 1))) (eVar 10)) (.tp [(.nm 11), (.nm 12), (.nm 13), (.nm 14)]))
    (sIf (tV (cBin gIn (eTup (aCons (cBin (gI fSub) (eVar 5) (eVar 13)) (aCons (cBin (gI fSub) (eVar 6) (eVar 14)) aNil))) (cBin gIx (eVar 1) (eVar 12)))) (sExp (eMt mAppend (eVar 9) (aCons (eVar 10) aNil))) sNil))
def l_way_with_2 : Sv := (sSeq (sSet 9 (eNew aNil))
    (sSeq (sFor (srcSeq (cBin gIx (eVar 8) (eVar 4))) (.nm 10) l_way_with_1)
    (sSeq (sExp (eMt mAppend (eVar 7) (aCons (cBin gIx (eVar 9) (eK (.int 0))) aNil)))
    (sSeq (sAsg (cBin gIx (cBin gIx (eVar 0) (eK (.int 1))) (cBin gIx (eVar 9) (eK (.int 0)))) (.tp [(.nm 11), (.nm 4), (.nm 13), (.nm 14)]))
    (sPar 5 6 (aCons (cBin (gI fSub) (eVar 5) (eVar 13)) (aCons (cBin (gI fSub) (eVar 6) (eVar 14)) aNil)))))))
def b_way_with : Sv := (sSeq (sParT [(.nm 4), (.tp [(.nm 5), (.nm 6)]), (.nm 7)] (aCons (eVar 2) (aCons (eVar 3) (aCons (eNew aNil) aNil))))
    (sSeq (sSet 8 (eCall m_roads_from [false] false (aCons (eVar 0) aNil)))
    (sSeq (sWhile 1000000 (tV (cBin (gI fGt) (eVar 5) (eK (.int 0)))) l_way_with_2)
    (sRet (cCB gTuple (aCons (eVar 7) aNil))))))
def m_way_with : Fm := runFn false [false, false, false, false] 11 b_way_with
def b_front_in : Sv := (sSeq (sAsg (eVar 0) (.tp [(.nm 3), (.nm 4)]))
    (sSeq (sSet 5 (eCall m_pairs_from [false, false, false] false (aCons (eVar 3) (aCons (eCall m_turned_about [false] false (aCons (eVar 4) aNil)) (aCons (eVar 2) aNil)))))
    (sRet (eCompN (srcSeq (cBin gIx (eVar 5) (eVar 1))) (.nm 6) [6] tTrue (cBin gAdd (eVar 6) (eTup (aCons (eCall m_way_with [false, false, false, false] false (aCons (eVar 0) (aCons (eVar 5) (aCons (eVar 1) (aCons (eVar 6) aNil))))) aNil)))))))
def m_front_in : Fm := runFn true [false, false, false] 4 b_front_in
def b_front_of : Sv := (sSeq (sExp (eCall m_need_ends [false, false, false] false (aCons (eVar 0) (aCons (eVar 1) (aCons (eVar 2) aNil)))))
    (sRet (eCallN m_front_in [false, false, false] (aCons (eVar 0) (aCons (eVar 1) (aCons (eVar 2) aNil))))))
def m_front_of : Fm := runFn true [false, false, false] 0 b_front_of
def b__law_cell_at : Sv := (sSeq (sIf (tV (cBin (gI fLt) (eVar 1) (cCB gLen (aCons (eVar 0) aNil)))) (sRet (cBin gIx (eVar 0) (eVar 1))) sNil)
    (sRet (eK (.int 0))))
def m__law_cell_at : Fm := runFn false [false, false] 0 b__law_cell_at
def b__law_state : Sv := (sSeq (sSet 2 (eCall m__law_cell_at [false, false] false (aCons (eVar 0) (aCons (eVar 1) aNil))))
    (sRet (eNew (aCons (cCB gMax2 (aCons (eK (.int 0)) (aCons (cBin (gI fSub) (eVar 2) (cBin (gI fPow) (eK (.int 10)) (eK (.int 18)))) aNil))) (aCons (cBin (gI fMod) (eVar 2) (eK (.int 2147483647))) aNil)))))
def m__law_state : Fm := runFn true [false, false] 1 b__law_state
def b__law_take : Sv := (sSeq (sIf (tV (cBin (gI fGt) (cBin gIx (eVar 0) (eK (.int 0))) (eK (.int 0)))) (sSeq (sSet 2 (cBin (gI fMod) (cBin gIx (eVar 0) (eK (.int 0))) (eVar 1)))
    (sSeq (sPut (eVar 0) (eK (.int 0)) (cBin (gI fDiv) (cBin gIx (eVar 0) (eK (.int 0))) (eVar 1)))
    (sRet (eVar 2)))) sNil)
    (sSeq (sPut (eVar 0) (eK (.int 1)) (cBin (gI fMod) (cBin gAdd (cBin (gI fMul) (cBin gIx (eVar 0) (eK (.int 1))) (eK (.int 48271))) (eK (.int 29))) (eK (.int 2147483647))))
    (sSeq (sSet 3 (cBin (gI fMod) (cBin gAdd (cBin gAdd (cBin (gI fMul) (cBin gIx (eVar 0) (eK (.int 1))) (cBin gIx (eVar 0) (eK (.int 1)))) (cBin (gI fMul) (eK (.int 39373)) (cBin gIx (eVar 0) (eK (.int 1))))) (eK (.int 7))) (eK (.int 2147483629))))
    (sSeq (sSet 3 (cBin (gI fMod) (cBin gAdd (cBin (gI fMul) (eVar 3) (eVar 3)) (cBin (gI fMul) (eK (.int 16807)) (eVar 3))) (eK (.int 2147483587))))
    (sRet (cBin (gI fMod) (cBin (gI fDiv) (eVar 3) (eK (.int 8))) (eVar 1)))))))
def m__law_take : Fm := runFn false [true, false] 2 b__law_take
def b__law_number : Sv := (sRet (eAnd (cUn (gIsa "int") (eVar 0)) (eAnd (eNot (cUn (gIsa "bool") (eVar 0))) (eChain (gI fLe) (gI fLe) (eVar 1) (eVar 0) (eVar 2)))))
def m__law_number : Fm := runFn false [false, false, false] 0 b__law_number
def l__law_net_1 : Sv := (sSeq (sSet 6 (cBin gIx (eLst (aCons (eCall m__law_take [true, false] false (aCons (eVar 0) (aCons (eVar 3) aNil))) (aCons (cCB gMin2 (aCons (eVar 5) (aCons (cBin (gI fSub) (eVar 3) (eK (.int 1))) aNil))) aNil))) (eCall m__law_take [true, false] false (aCons (eVar 0) (aCons (eK (.int 2)) aNil)))))
    (sSeq (sSet 7 (cBin (gI fMod) (cBin gAdd (cBin gAdd (eVar 6) (eK (.int 1))) (cBin gIx (eLst (aCons (eK (.int 0)) (aCons (eCall m__law_take [true, false] false (aCons (eVar 0) (aCons (cBin (gI fSub) (eVar 3) (eK (.int 1))) aNil))) aNil))) (eCall m__law_take [true, false] false (aCons (eVar 0) (aCons (eK (.int 2)) aNil))))) (eVar 3)))
    (sSeq (sSet 8 (cBin gIx (eLst (aCons (cBin gAdd (eK (.int 1)) (eCall m__law_take [true, false] false (aCons (eVar 0) (aCons (eK (.int 4)) aNil)))) (aCons (cBin gAdd (eK (.int 1)) (eCall m__law_take [true, false] false (aCons (eVar 0) (aCons (eK (.int 99)) aNil)))) (aCons (eK (.int 1)) aNil)))) (eCall m__law_take [true, false] false (aCons (eVar 0) (aCons (eK (.int 3)) aNil)))))
    (sSeq (sSet 9 (cBin gIx (eLst (aCons (eCall m__law_take [true, false] false (aCons (eVar 0) (aCons (eK (.int 4)) aNil))) (aCons (eCall m__law_take [true, false] false (aCons (eVar 0) (aCons (eK (.int 100)) aNil))) (aCons (eK (.int 0)) aNil)))) (eCall m__law_take [true, false] false (aCons (eVar 0) (aCons (eK (.int 3)) aNil)))))
    (sExp (eMt mAppend (eVar 4) (aCons (eTup (aCons (eVar 6) (aCons (eVar 7) (aCons (eVar 8) (aCons (eVar 9) aNil))))) aNil)))))))
def b__law_net : Sv := (sSeq (sPar 3 4 (aCons (cBin gAdd (eK (.int 1)) (eCall m__law_take [true, false] false (aCons (eVar 0) (aCons (eVar 1) aNil)))) (aCons (eNew aNil) aNil)))
    (sSeq (sFor (srcRng1 (aCons (cBin (gI fMul) (eCall m__law_take [true, false] false (aCons (eVar 0) (aCons (cBin gAdd (eVar 2) (eK (.int 1))) aNil))) (cCB gInt (aCons (cBin (gI fGt) (eVar 3) (eK (.int 1))) aNil))) aNil)) (.nm 5) l__law_net_1)
    (sRet (eTup (aCons (eVar 3) (aCons (cCB gTuple (aCons (eVar 4) aNil)) aNil))))))
def m__law_net : Fm := runFn false [true, false, false] 7 b__law_net
def l__law_joins_1 : Sv := (sExp (eMt mAppI (eIxI (eVar 1) (cBin gIx (eVar 3) (eK (.int 0)))) (aCons (cBin gAdd (eTup (aCons (eVar 2) aNil)) (eSl (eVar 3) (oSome (eK (.int 1))) oNone)) aNil)))
def b__law_joins : Sv := (sSeq (sSet 1 (eCompE (srcRng1 (aCons (cBin gIx (eVar 0) (eK (.int 0))) aNil))))
    (sSeq (sFor (srcEnum (aCons (cBin gIx (eVar 0) (eK (.int 1))) aNil)) (.tp [(.nm 2), (.nm 3)]) l__law_joins_1)
    (sRet (eVar 1))))
def m__law_joins : Fm := runFn false [false] 4 b__law_joins
def l__law_came_1 : Sv := (sSeq (sIf (tOr_ (tNo (tV (eCall m__law_number [false, false, false] false (aCons (eVar 5) (aCons (eK (.int 0)) (aCons (cBin (gI fSub) (cCB gLen (aCons (cBin gIx (eVar 0) (eK (.int 1))) aNil)) (eK (.int 1))) aNil)))))) (tV (cBin gNe (cBin gIx (cBin gIx (cBin gIx (eVar 0) (eK (.int 1))) (eVar 5)) (eK (.int 0))) (eVar 1)))) (sRet (eK .none)) sNil)
    (sSeq (sAsg (cBin gIx (cBin gIx (eVar 0) (eK (.int 1))) (eVar 5)) (.tp [(.nm 6), (.nm 1), (.nm 7), (.nm 8)]))
    (sPar 3 4 (aCons (cBin gAdd (eVar 3) (eVar 7)) (aCons (cBin gAdd (eVar 4) (eVar 8)) aNil)))))
def b__law_came : Sv := (sSeq (sAsg (eTup (aCons (eK (.int 0)) (aCons (eK (.int 0)) aNil))) (.tp [(.nm 3), (.nm 4)]))
    (sSeq (sIf (tNo (tV (cUn (gIsa "tuple") (eVar 2)))) (sRet (eK .none)) sNil)
    (sSeq (sFor (srcSeq (eVar 2)) (.nm 5) l__law_came_1)
    (sRet (eTup (aCons (eVar 1) (aCons (eVar 3) (aCons (eVar 4) aNil))))))))
def m__law_came : Fm := runFn false [false, false, false] 6 b__law_came
def l__law_simple_1 : Sv := (sIf (tV (cBin gNotIn (eVar 11) (eVar 8))) (sExp (eMt mAppend (eVar 4) (aCons (eTup (aCons (cBin gAdd (eVar 6) (eTup (aCons (eVar 10) aNil))) (aCons (eVar 11) (aCons (cBin gAdd (eVar 8) (eTup (aCons (eVar 11) aNil))) (aCons (cBin gAdd (eVar 9) (eVar 12)) aNil))))) aNil))) sNil)
def l__law_simple_2 : Sv := (sSeq (sAsg (eMt0 mPop (eVar 4)) (.tp [(.nm 6), (.nm 7), (.nm 8), (.nm 9)]))
    (sIf (tV (cBin gEq (eVar 7) (eVar 2))) (sExp (eMt mAppend (eVar 5) (aCons (eTup (aCons (eVar 9) (aCons (eVar 6) aNil))) aNil))) (sFor (srcSeq (cBin gIx (eVar 3) (eVar 7))) (.tp [(.nm 10), (.nm 11), (.nm 12), (.nm 13)]) l__law_simple_1)))
def b__law_simple : Sv := (sSeq (sPar3 3 4 5 (aCons (eCall m__law_joins [false] false (aCons (eVar 0) aNil)) (aCons (eNew (aCons (eTup (aCons (eTup aNil) (aCons (eVar 1) (aCons (eTup (aCons (eVar 1) aNil)) (aCons (eK (.int 0)) aNil))))) aNil)) (aCons (eNew aNil) aNil))))
    (sSeq (sWhile 1000000 (tV (cBin gNe (eVar 4) (eLst aNil))) l__law_simple_2)
    (sRet (cCB gSorted (aCons (eVar 5) aNil)))))
def m__law_simple : Fm := runFn false [false, false, false] 11 b__law_simple
def b__law_ends : Sv := (sSeq (sSet 2 (eCall m__law_take [true, false] false (aCons (eVar 0) (aCons (cBin gIx (eVar 1) (eK (.int 0))) aNil))))
    (sRet (eTup (aCons (eVar 2) (aCons (cBin gIx (eLst (aCons (eVar 2) (aCons (eCall m__law_take [true, false] false (aCons (eVar 0) (aCons (cBin gIx (eVar 1) (eK (.int 0))) aNil))) (aCons (eCall m__law_take [true, false] false (aCons (eVar 0) (aCons (cBin gIx (eVar 1) (eK (.int 0))) aNil))) aNil)))) (eCall m__law_take [true, false] false (aCons (eVar 0) (aCons (eK (.int 3)) aNil)))) aNil)))))
def m__law_ends : Fm := runFn false [true, false] 1 b__law_ends
def l__law_front_1 : Sv := (sPM 7 3 6 (eKey (eCall m__law_came [false, false, false] false (aCons (eVar 0) (aCons (eVar 1) (aCons (eVar 6) aNil)))) (oSome (eK (.int 1))) oNone))
def l__law_front_2 : Sv := (sIf (tV (cBin gEq (eCompQ 0 3 (.nm 8) [8] (tAn (tV (cBin gNe (eVar 8) (eVar 7))) (tAn (tV (cBin (gI fLe) (cBin gIx (eVar 8) (eK (.int 0))) (cBin gIx (eVar 7) (eK (.int 0))))) (tV (cBin (gI fLe) (cBin gIx (eVar 8) (eK (.int 1))) (cBin gIx (eVar 7) (eK (.int 1))))))) (eVar 8)) (eLst aNil))) (sExp (eMt mAppend (eVar 4) (aCons (cBin gAdd (eVar 7) (eTup (aCons (cBin gDQIx (eVar 3) (eVar 7)) aNil))) aNil))) sNil)
def b__law_front : Sv := (sSeq (sPar 3 4 (aCons eTqN (aCons (eNew aNil) aNil)))
    (sSeq (sFor (srcSeq (eCall m__law_simple [false, false, false] false (aCons (eVar 0) (aCons (eVar 1) (aCons (eVar 2) aNil))))) (.tp [(.nm 5), (.nm 6)]) l__law_front_1)
    (sSeq (sFor (srcSeq (cCB gSortQ (aCons (eVar 3) aNil))) (.nm 7) l__law_front_2)
    (sRet (eVar 4)))))
def m__law_front : Fm := runFn false [false, false, false] 6 b__law_front
def l_law_1 : Sv := (sSeq (sSet 10 (eCallN m_front_of [false, false, false] (aCons (eVar 2) (aCons (eVar 5) (aCons (eVar 6) aNil)))))
    (sSeq (sIf (tOr_ (tV (cBin gNe (cCB gReprX (aCons (eVar 10) aNil)) (eVar 8))) (tV (cBin gNe (cCB gReprX (aCons (eVar 2) aNil)) (eVar 7)))) (sRet (eK (.bool false))) sNil)
    (sExp (eMt mAppend (eVar 10) (aCons (eK .none) aNil)))))
def l_law_2 : Sv := (sSeq (sSet 4 (eCallN m__law_state [false, false] (aCons (eVar 0) (aCons (eVar 3) aNil))))
    (sSeq (sSet 2 (eCall m__law_net [true, false, false] false (aCons (eVar 4) (aCons (eK (.int 7)) (aCons (eK (.int 12)) aNil)))))
    (sSeq (sAsg (eCall m__law_ends [true, false] false (aCons (eVar 4) (aCons (eVar 2) aNil))) (.tp [(.nm 5), (.nm 6)]))
    (sSeq (sPar 7 8 (aCons (cCB gReprX (aCons (eVar 2) aNil)) (aCons (cCB gReprX (aCons (eCall m__law_front [false, false, false] false (aCons (eVar 2) (aCons (eVar 5) (aCons (eVar 6) aNil)))) aNil)) aNil)))
    (sFor (srcRng1 (aCons (eK (.int 2)) aNil)) (.nm 9) l_law_1)))))
def b_law : Sv := (sSeq (sSet 1 (eTup (aCons (eTup (aCons (eK (.int 0)) (aCons (eK (.int 1)) (aCons (eK (.int 1)) (aCons (eK (.int 9)) aNil))))) (aCons (eTup (aCons (eK (.int 0)) (aCons (eK (.int 2)) (aCons (eK (.int 2)) (aCons (eK (.int 3)) aNil))))) (aCons (eTup (aCons (eK (.int 1)) (aCons (eK (.int 3)) (aCons (eK (.int 1)) (aCons (eK (.int 0)) aNil))))) (aCons (eTup (aCons (eK (.int 2)) (aCons (eK (.int 3)) (aCons (eK (.int 1)) (aCons (eK (.int 3)) aNil))))) (aCons (eTup (aCons (eK (.int 0)) (aCons (eK (.int 3)) (aCons (eK (.int 9)) (aCons (eK (.int 0)) aNil))))) (aCons (eTup (aCons (eK (.int 0)) (aCons (eK (.int 1)) (aCons (eK (.int 1)) (aCons (eK (.int 9)) aNil))))) (aCons (eTup (aCons (eK (.int 2)) (aCons (eK (.int 1)) (aCons (eK (.int 1)) (aCons (eK (.int 1)) aNil))))) aNil)))))))))
    (sSeq (sSet 2 (eTup (aCons (eK (.int 4)) (aCons (cBin gAdd (eVar 1) (eTup (aCons (eTup (aCons (eK (.int 0)) (aCons (eK (.int 3)) (aCons (eK (.int 9)) (aCons (eK (.int 1)) aNil))))) aNil))) aNil))))
    (sSeq (sIf (tV (cBin gNe (eCall m_front_of [false, false, false] true (aCons (eVar 2) (aCons (eK (.int 0)) (aCons (eK (.int 3)) aNil)))) (eLst (aCons (eTup (aCons (eK (.int 2)) (aCons (eK (.int 9)) (aCons (eTup (aCons (eK (.int 0)) (aCons (eK (.int 2)) aNil))) aNil)))) (aCons (eTup (aCons (eK (.int 3)) (aCons (eK (.int 6)) (aCons (eTup (aCons (eK (.int 1)) (aCons (eK (.int 3)) aNil))) aNil)))) (aCons (eTup (aCons (eK (.int 4)) (aCons (eK (.int 4)) (aCons (eTup (aCons (eK (.int 1)) (aCons (eK (.int 6)) (aCons (eK (.int 2)) aNil)))) aNil)))) (aCons (eTup (aCons (eK (.int 9)) (aCons (eK (.int 0)) (aCons (eTup (aCons (eK (.int 4)) aNil)) aNil)))) aNil))))))) (sRet (eK (.bool false))) sNil)
    (sSeq (sIf (tV (cBin gNe (eLst (aCons (eCall m_front_of [false, false, false] true (aCons (eVar 2) (aCons (eK (.int 3)) (aCons (eK (.int 0)) aNil)))) (aCons (eCall m_front_of [false, false, false] true (aCons (eVar 2) (aCons (eK (.int 2)) (aCons (eK (.int 2)) aNil)))) (aCons (eCall m_front_of [false, false, false] true (aCons (eTup (aCons (eK (.int 1)) (aCons (eTup aNil) aNil))) (aCons (eK (.int 0)) (aCons (eK (.int 0)) aNil)))) aNil)))) (eLst (aCons (eLst aNil) (aCons (eLst (aCons (eTup (aCons (eK (.int 0)) (aCons (eK (.int 0)) (aCons (eTup aNil) aNil)))) aNil)) (aCons (eLst (aCons (eTup (aCons (eK (.int 0)) (aCons (eK (.int 0)) (aCons (eTup aNil) aNil)))) aNil)) aNil)))))) (sRet (eK (.bool false))) sNil)
    (sSeq (sFor (srcRng1 (aCons (cCB gMax2 (aCons (eK (.int 1)) (aCons (cCB gMin2 (aCons (cCB gLen (aCons (eVar 0) aNil)) (aCons (eK (.int 4)) aNil))) aNil))) aNil)) (.nm 3) l_law_2)
    (sRet (eK (.bool true))))))))
def m_law : Fm := runFn false [false] 10 b_law
end FL
namespace FL
open PySem PySem.Spec PyProof.Rows L2
def rdK (rs : List Road) (k : Nat) : Road := (rs[k]?).getD ⟨0, 0, 0, 0⟩
theorem rdK_of {rs : List Road} {k : Nat} {r : Road} (h : rs[k]? = some r) : rdK rs k = r := by unfold rdK; rw [h]; rfl
def Wy (rs : List Road) : Nat → List Nat → Nat → Prop
  | p, [], q => p = q
  | p, k :: ws, q => ∃ r, rs[k]? = some r ∧ r.one = p ∧ Wy rs r.other ws q
def oth (rs : List Road) (ws : List Nat) : List Nat := ws.map fun k => (rdK rs k).other
def plW (rs : List Road) (p : Nat) (ws : List Nat) : List Nat := p :: oth rs ws
def cW (rs : List Road) (ws : List Nat) : Nat := (ws.map fun k => (rdK rs k).cost).sum
def SW (rs : List Road) (s g : Nat) (ws : List Nat) : Prop := Wy rs s ws g ∧ (plW rs s ws).Nodup
theorem Wy.app {rs : List Road} : ∀ {a b : List Nat} {p m q : Nat}, Wy rs p a m → Wy rs m b q → Wy rs p (a ++ b) q
  | [], b, p, m, q, h1, h2 => by cases h1; exact h2
  | k :: a, b, p, m, q, ⟨r, e1, e2, h1⟩, h2 => ⟨r, e1, e2, Wy.app h1 h2⟩
theorem Wy.split {rs : List Road} : ∀ {a b : List Nat} {p q : Nat}, Wy rs p (a ++ b) q → ∃ m, Wy rs p a m ∧ Wy rs m b q
  | [], b, p, q, h => ⟨p, rfl, h⟩
  | k :: a, b, p, q, ⟨r, e1, e2, h⟩ => by
    obtain ⟨m, h1, h2⟩ := Wy.split h
    exact ⟨m, ⟨r, e1, e2, h1⟩, h2⟩
theorem Wy.uniq {rs : List Road} : ∀ {a : List Nat} {p q q' : Nat}, Wy rs p a q → Wy rs p a q' → q = q'
  | [], p, q, q', h, h' => by cases h; cases h'; rfl
  | k :: a, p, q, q', ⟨r, e1, e2, h⟩, ⟨r', e1', e2', h'⟩ => by
    rw [e1] at e1'
    cases e1'
    exact Wy.uniq h h'
theorem plW_app {rs : List Road} {p : Nat} {a b : List Nat} : plW rs p (a ++ b) = plW rs p a ++ oth rs b := by simp [plW, oth]
theorem cW_app {rs : List Road} {a b : List Nat} : cW rs (a ++ b) = cW rs a + cW rs b := by simp [cW]
theorem cW_cons {rs : List Road} {k : Nat} {a : List Nat} : cW rs (k :: a) = (rdK rs k).cost + cW rs a := by simp [cW]
theorem oth_cons {rs : List Road} {k : Nat} {b : List Nat} : oth rs (k :: b) = plW rs (rdK rs k).other b := rfl
theorem Wy.last {rs : List Road} : ∀ {a : List Nat} {p q : Nat}, Wy rs p a q → ∃ ini, plW rs p a = ini ++ [q]
  | [], p, q, h => by cases h; exact ⟨[], rfl⟩
  | k :: a, p, q, ⟨r, e1, e2, h⟩ => by
    obtain ⟨ini, e⟩ := Wy.last h
    refine ⟨p :: ini, ?_⟩
    show p :: (rdK rs k).other :: oth rs a = _
    rw [rdK_of e1]
    show p :: plW rs r.other a = _
    rw [e]
    rfl
theorem Wy.mem {rs : List Road} {a : List Nat} {p q : Nat} (h : Wy rs p a q) : q ∈ plW rs p a := by
  obtain ⟨ini, e⟩ := h.last
  rw [e]
  simp
theorem Wy.memO {rs : List Road} {a : List Nat} {p q k : Nat} (h : Wy rs p (k :: a) q) : q ∈ oth rs (k :: a) := by
  obtain ⟨r, e1, _, h⟩ := h
  have := h.mem
  show q ∈ (rdK rs k).other :: oth rs a
  rw [rdK_of e1]
  exact this
theorem SW.pre {rs : List Road} {s g : Nat} {t u : List Nat} (h1 : Wy rs s t g) (h2 : SW rs s g (t ++ u)) : u = [] := by
  cases u with
  | nil => rfl
  | cons k u =>
    obtain ⟨m, w1, w2⟩ := h2.1.split
    have nd := h2.2
    rw [plW_app, List.nodup_append] at nd
    exact absurd rfl (nd.2.2 g h1.mem g w2.memO)
theorem SW.ne {rs : List Road} {s g : Nat} {t : List Nat} (h : SW rs s g t) (hsg : s ≠ g) : t ≠ [] := fun e => by
  subst e
  exact hsg h.1
def kyW (rs : List Road) (w : List Nat) : Nat × List Nat := (cW rs w, w)
def ltK (rs : List Road) (a b : List Nat) : Prop := leW (kyW rs a) (kyW rs b) = true ∧ a ≠ b
structure Ini (rs : List Road) (s g : Nat) (T : List (List Nat)) : Prop where
  sw : ∀ t ∈ T, SW rs s g t
  up : T.Pairwise (ltK rs)
  low : ∀ w, SW rs s g w → w ∉ T → ∀ t ∈ T, ltK rs t w
theorem Ini.nil {rs : List Road} {s g : Nat} : Ini rs s g [] := ⟨by simp, .nil, by simp⟩
structure Alls (rs : List Road) (s g : Nat) (L : List (List Nat)) : Prop where
  iff : ∀ w, w ∈ L ↔ SW rs s g w
  up : L.Pairwise (ltK rs)
theorem ltK_not {rs : List Road} {a b : List Nat} (h : ltK rs a b) : ¬ ltK rs b a := fun z => h.2 (by
  have := leW_anti h.1 z.1
  unfold kyW at this
  exact (Prod.mk.inj this).2)
theorem alls_take {rs : List Road} : ∀ {T L : List (List Nat)}, T.Pairwise (ltK rs) → L.Pairwise (ltK rs) → (∀ t ∈ T, t ∈ L) → (∀ w ∈ L, w ∉ T → ∀ t ∈ T, ltK rs t w) → T = L.take T.length
  | [], L, _, _, _, _ => by simp
  | t :: T, [], _, _, h, _ => by have := h t List.mem_cons_self; cases this
  | t :: T, l :: L, hT, hL, hs, hl => by
    rw [List.pairwise_cons] at hT hL
    have e : l = t := by
      by_cases z : l ∈ t :: T
      · rcases List.mem_cons.mp z with z | z
        · exact z
        · have h1 := hT.1 l z
          rcases List.mem_cons.mp (hs t List.mem_cons_self) with y | y
          · exact y.symm
          · exact absurd h1 (ltK_not (hL.1 t y))
      · have h1 := hl l List.mem_cons_self z t List.mem_cons_self
        rcases List.mem_cons.mp (hs t List.mem_cons_self) with y | y
        · exact y.symm
        · exact absurd h1 (ltK_not (hL.1 t y))
    subst e
    rw [List.length_cons, List.take_succ_cons]
    congr 1
    refine alls_take hT.2 hL.2 (fun t' m => ?_) fun w mw nw t' mt => ?_
    · rcases List.mem_cons.mp (hs t' (List.mem_cons_of_mem _ m)) with y | y
      · exact absurd y.symm (hT.1 t' m).2
      · exact y
    · refine hl w (List.mem_cons_of_mem _ mw) (fun z => ?_) t' (List.mem_cons_of_mem _ mt)
      rcases List.mem_cons.mp z with y | y
      · exact (hL.1 w mw).2 y.symm
      · exact nw y
theorem Ini.take {rs : List Road} {s g : Nat} {T L : List (List Nat)} (h : Ini rs s g T) (a : Alls rs s g L) : T = L.take T.length := alls_take h.up a.up (fun t m => (a.iff t).mpr (h.sw t m)) fun w mw nw t mt => h.low w ((a.iff w).mp mw) nw t mt
end FL
namespace FL
open PySem PySem.Spec PyProof.Rows L2
@[simp] theorem e_among {i a b : Int} : m_is_among [.int i, .int a, .int b] [] = .ok (.bool (decide (a ≤ i) && decide (i ≤ b))) [] := by
  simp [m_is_among, b_is_among]
theorem e_road {n : Nat} {r : Road} (h : r.Ok n) : m_is_road [r.d, .int n] [] = .ok (.bool true) [] := by
  obtain ⟨h1, h2, h3, h4, h5, h6⟩ := h
  have w1 : (r.one : Int) ≤ n - 1 := by omega
  have w2 : (r.other : Int) ≤ n - 1 := by omega
  have w3 : (1 : Int) ≤ r.cost := by omega
  have w4 : (r.cost : Int) ≤ 99 := by omega
  have w5 : (r.time : Int) ≤ 99 := by omega
  have w6 : ¬ (r.one : Int) = r.other := by omega
  simp [m_is_road, b_is_road, Road.d, cut_to2, compL, bools?, w1, w2, w3, w4, w5, w6]
theorem e_net {n : Nat} {rs : List Road} (h : NetOk n rs) : m_is_net [netD n rs] [] = .ok (.bool true) [] := by
  obtain ⟨h1, h2, h3, h4⟩ := h
  have w1 : (1 : Int) ≤ n := by omega
  have w2 : (n : Int) ≤ 10 := by omega
  have w3 : (rs.length : Int) ≤ 30 := by omega
  simp [m_is_net, b_is_net, netD, w1, w2, w3]
  rw [comp_map (dd := Road.d) (w := fun _ => .bool true) (fun z => by simp; rfl) (fun z => rfl) rs [] (fun z m => by simp [e_road (h4 z m)]) (by simp; omega)]
  simp [bools_map]
@[simp] theorem e_needNet {n : Nat} {rs : List Road} (h : NetOk n rs) : m_need_net [netD n rs] [] = .ok .none [] := by
  simp [m_need_net, b_need_net, e_net h]
end FL
namespace FL
open PySem PySem.Spec PyProof.Rows L2
@[simp] theorem e_place {n : Nat} {rs : List Road} {i : Int} : m_is_place [netD n rs, .int i] [] = .ok (.bool (decide (0 ≤ i) && decide (i ≤ n - 1))) [] := by
  simp [m_is_place, b_is_place, netD]
theorem e_needPlace {n p : Nat} {rs : List Road} (h : p < n) : m_need_place [netD n rs, .int p] [] = .ok .none [] := by
  have w1 : (p : Int) ≤ n - 1 := by omega
  simp [m_need_place, b_need_place, w1]
end FL
namespace FL
open PySem PySem.Spec PyProof.Rows L2
theorem e_needEnds {n s g : Nat} {rs : List Road} (h : NetOk n rs) (hs : s < n) (hg : g < n) : m_need_ends [netD n rs, .int s, .int g] [] = .ok .none [] := by
  simp [m_need_ends, b_need_ends, e_needNet h, e_needPlace hs, e_needPlace hg]
end FL
namespace FL
open PySem PySem.Spec PyProof.Rows L2
def Pos (rs : List Road) : Prop := ∀ r ∈ rs, 1 ≤ r.cost
theorem NetOk.pos {n : Nat} {rs : List Road} (h : NetOk n rs) : Pos rs := fun r m => (h.all r m).c1
end FL
namespace FL
open PySem PySem.Spec PyProof.Rows L2
def outsF (p : Nat) : Nat → List Road → List Nat
  | _, [] => []
  | j, r :: rs => if r.one = p then j :: outsF p (j + 1) rs else outsF p (j + 1) rs
def outs (rs : List Road) (p : Nat) : List Nat := outsF p 0 rs
theorem outsF_mem {p : Nat} : ∀ (rs : List Road) (j k : Nat), k ∈ outsF p j rs ↔ ∃ i r, k = j + i ∧ rs[i]? = some r ∧ r.one = p
  | [], j, k => by simp [outsF]
  | r :: rs, j, k => by
    have ih := outsF_mem (p := p) rs (j + 1) k
    have key : (∃ i r', k = j + 1 + i ∧ rs[i]? = some r' ∧ r'.one = p) ↔ ∃ i r', k = j + (i + 1) ∧ (r :: rs)[i + 1]? = some r' ∧ r'.one = p := by
      constructor
      · rintro ⟨i, r', h1, h2, h3⟩; exact ⟨i, r', by omega, by simpa using h2, h3⟩
      · rintro ⟨i, r', h1, h2, h3⟩; exact ⟨i, r', by omega, by simpa using h2, h3⟩
    unfold outsF
    split
    · rename_i hr
      rw [List.mem_cons, ih]
      constructor
      · rintro (z | z)
        · exact ⟨0, r, by omega, rfl, hr⟩
        · obtain ⟨i, r', h1, h2, h3⟩ := key.mp z
          exact ⟨i + 1, r', h1, h2, h3⟩
      · rintro ⟨i, r', h1, h2, h3⟩
        cases i with
        | zero => exact .inl (by omega)
        | succ i => exact .inr (key.mpr ⟨i, r', h1, h2, h3⟩)
    · rename_i hr
      rw [ih]
      constructor
      · intro z
        obtain ⟨i, r', h1, h2, h3⟩ := key.mp z
        exact ⟨i + 1, r', h1, h2, h3⟩
      · rintro ⟨i, r', h1, h2, h3⟩
        cases i with
        | zero =>
          have : r = r' := by simpa using h2
          subst this
          exact absurd h3 hr
        | succ i => exact key.mpr ⟨i, r', h1, h2, h3⟩
theorem outs_mem {rs : List Road} {p k : Nat} : k ∈ outs rs p ↔ ∃ r, rs[k]? = some r ∧ r.one = p := by
  unfold outs
  rw [outsF_mem]
  constructor
  · rintro ⟨i, r, h1, h2, h3⟩
    have : k = i := by omega
    subst this
    exact ⟨r, h2, h3⟩
  · rintro ⟨r, h2, h3⟩
    exact ⟨k, r, by omega, h2, h3⟩
end FL
namespace FL
open PySem PySem.Spec PyProof.Rows L2
theorem map_getR {rs : List Road} {k : Nat} {r : Road} (h : rs[k]? = some r) : (rs.map Road.d)[k]? = some r.d := by rw [List.getElem?_map, h]; rfl
def aheadD (n : Nat) (rs : List Road) : List PyData := (List.range n).map fun p => .list (natsD (outs rs p))
theorem aheadD_get {n p : Nat} {rs : List Road} (h : p < n) : (aheadD n rs)[p]? = some (.list (natsD (outs rs p))) := by
  unfold aheadD
  rw [List.getElem?_map, List.getElem?_range h]
  rfl
theorem outs_zip {p : Nat} : ∀ (rs : List Road) (j : Nat), ((rs.zipIdx j).filter fun q => decide (q.1.one = p)).map (fun q => PyData.int (q.2 : Nat)) = natsD (outsF p j rs)
  | [], _ => rfl
  | r :: rs, j => by
    have ih := outs_zip (p := p) rs (j + 1)
    rw [List.zipIdx_cons, List.filter_cons]
    unfold outsF
    by_cases q : r.one = p
    · rw [if_pos (by simpa using q), if_pos q, List.map_cons, ih]
      rfl
    · rw [if_neg (by simpa using q), if_neg q, ih]
theorem e_roadsFrom {n : Nat} {rs : List Road} (h : NetOk n rs) : m_roads_from [netD n rs] [] = .ok (.list (aheadD n rs)) [] := by
  have hl := h.len
  have h2 := h.n2
  simp [m_roads_from, b_roads_from, netD]
  rw [v_rng1 (by omega) (by omega)]
  simp [upTo]
  rw [comp_map (dd := fun p : Nat => PyData.int p) (w := fun p : Nat => .list (natsD (outs rs p))) (fun z => by simp; rfl) (fun z => rfl) (List.range n) [] (fun z m => by
    simp
    rw [enum_zip Road.d rs 0, comp_flt (E := fun q : Road × Nat => [some (.val (.tuple [.int n, .tuple (rs.map Road.d)])), some (.val (.int (z : Nat))), some (.val (.int (q.2 : Nat))), some (.val q.1.d)]) (P := fun q => decide (q.1.one = z)) (w := fun q => .int (q.2 : Nat)) rs.zipIdx [] (fun q m => by simp) (fun q m => by
      by_cases e : q.1.one = z
      · simp [Road.d, e]
      · have e' : ¬ (q.1.one : Int) = z := by omega
        simp [Road.d, e, e']) (fun q m _ => by simp) (by simp; omega)]
    simp [outs_zip, outs]) (by simp; omega)]
  simp [aheadD]
theorem pick_lt {rs : List Road} {s : Nat} : ∀ v ∈ outs rs s, v < rs.length := fun v hv => by
  obtain ⟨r, hr, _⟩ := outs_mem.mp hv
  exact (List.getElem?_eq_some_iff.mp hr).1
theorem outsF_len {p : Nat} : ∀ (rs : List Road) (j : Nat), (outsF p j rs).length ≤ rs.length
  | [], _ => by simp [outsF]
  | r :: rs, j => by
    have := outsF_len (p := p) rs (j + 1)
    unfold outsF
    split <;> simp <;> omega
end FL
namespace FL
open PySem PySem.Spec PyProof.Rows L2
structure Lb where
  c : Nat
  t : Nat
  p : Nat
deriving DecidableEq
def Lb.le (x y : Lb) : Prop := x.c < y.c ∨ (x.c = y.c ∧ (x.t < y.t ∨ (x.t = y.t ∧ x.p ≤ y.p)))
theorem Lb.anti {x y : Lb} (a : x.le y) (b : y.le x) : x = y := by
  cases x; cases y
  unfold Lb.le at a b
  simp only [Lb.mk.injEq] at *
  omega
abbrev Ff := Nat → List (Nat × Nat)
def acc (F : Ff) (x : Lb) : Bool := (F x.p).all fun y => !(decide (y.1 ≤ x.c) && decide (y.2 ≤ x.t))
def addF (F : Ff) (x : Lb) : Ff := fun q => if q = x.p then F q ++ [(x.c, x.t)] else F q
def stF (F : Ff) (x : Lb) : Ff := if acc F x = true then addF F x else F
def psh (rs : List Road) (F : Ff) (x : Lb) : List Lb := if acc F x = true then (rs.filter fun r => decide (r.one = x.p)).map fun r => ⟨x.c + r.cost, x.t + r.time, r.other⟩ else []
inductive Run (rs : List Road) : Ff → List Lb → Ff → Prop
  | done (F : Ff) : Run rs F [] F
  | step {F : Ff} {B B' : List Lb} {G : Ff} (x : Lb) (p : B.Perm (x :: B')) (m : ∀ y ∈ B', x.le y) (r : Run rs (stF F x) (B' ++ psh rs F x) G) : Run rs F B G
theorem Run.perm {rs : List Road} {F G : Ff} {B B2 : List Lb} (r : Run rs F B G) (q : B2.Perm B) : Run rs F B2 G := by
  cases r with
  | done =>
    have : B2 = [] := q.eq_nil
    subst this
    exact .done F
  | step x p m r => exact .step x (q.trans p) m r
theorem Run.next {rs : List Road} {F G : Ff} {B' : List Lb} {x : Lb} (r : Run rs F (x :: B') G) (m : ∀ y ∈ B', x.le y) : Run rs (stF F x) (B' ++ psh rs F x) G := by
  cases r with
  | step z p m2 r =>
    have e : x = z := by
      have h1 : x ∈ z :: _ := p.mem_iff.mp List.mem_cons_self
      have h2 : z ∈ x :: B' := p.mem_iff.mpr List.mem_cons_self
      rcases List.mem_cons.mp h1 with e | h1
      · exact e
      · rcases List.mem_cons.mp h2 with e | h2
        · exact e.symm
        · exact Lb.anti (m z h2) (m2 x h1)
    subst e
    exact r.perm (List.Perm.append_right _ ((List.perm_cons x).mp p))
theorem Run.nil {rs : List Road} {F G : Ff} (r : Run rs F [] G) : F = G := by
  cases r with
  | done => rfl
  | step x p => exact absurd p.symm.eq_nil (by simp)
def Hist (n : Nat) (F : Ff) (x : Lb) : Prop := ∃ L : List Nat, L.Nodup ∧ (∀ q ∈ L, q < n) ∧ x.c ≤ 99 * L.length ∧ x.t ≤ 99 * L.length ∧ ∀ q ∈ L, ∃ y ∈ F q, y.1 ≤ x.c ∧ y.2 ≤ x.t
theorem nodup_lt : ∀ {n : Nat} {L : List Nat}, L.Nodup → (∀ q ∈ L, q < n) → L.length ≤ n
  | 0, [], _, _ => Nat.le_refl _
  | 0, q :: _, _, h => absurd (h q List.mem_cons_self) (Nat.not_lt_zero _)
  | n + 1, L, nd, h => by
    have h1 : (L.erase n).length ≤ n := nodup_lt (nd.erase n) fun q m => by
      have := h q (List.mem_of_mem_erase m)
      have : q ≠ n := fun e => by
        subst e
        exact (List.Nodup.not_mem_erase nd) m
      omega
    have h2 : L.length ≤ (L.erase n).length + 1 := by
      rw [List.length_erase]
      split <;> omega
    omega
theorem Hist.low {n : Nat} {F : Ff} {x : Lb} (h : Hist n F x) : x.c ≤ 99 * n ∧ x.t ≤ 99 * n := by
  obtain ⟨L, nd, lt, hc, ht, _⟩ := h
  have := nodup_lt nd lt
  omega
theorem addF_sub {F : Ff} {x : Lb} {q : Nat} {y : Nat × Nat} (m : y ∈ F q) : y ∈ stF F x q := by
  unfold stF
  split
  · unfold addF
    split
    · exact List.mem_append_left _ m
    · exact m
  · exact m
theorem Hist.mono {n : Nat} {F : Ff} {x z : Lb} (h : Hist n F z) : Hist n (stF F x) z := by
  obtain ⟨L, nd, lt, hc, ht, w⟩ := h
  exact ⟨L, nd, lt, hc, ht, fun q m => let ⟨y, m1, m2⟩ := w q m; ⟨y, addF_sub m1, m2⟩⟩
theorem Hist.push {n : Nat} {rs : List Road} {F : Ff} {x z : Lb} (hn : NetOk n rs) (hp : x.p < n) (h : Hist n F x) (m : z ∈ psh rs F x) : Hist n (stF F x) z ∧ z.p < n := by
  unfold psh at m
  split at m
  · rename_i ha
    obtain ⟨r, hr, rfl⟩ := List.mem_map.mp m
    obtain ⟨hr1, hr2⟩ := List.mem_filter.mp hr
    have ok := hn.all r hr1
    obtain ⟨L, nd, lt, hc, ht, w⟩ := h
    have np : x.p ∉ L := fun q => by
      obtain ⟨y, m1, m2, m3⟩ := w x.p q
      have := List.all_eq_true.mp ha y m1
      simp [m2, m3] at this
    refine ⟨⟨x.p :: L, List.nodup_cons.mpr ⟨np, nd⟩, fun q mq => ?_, ?_, ?_, fun q mq => ?_⟩, ?_⟩
    · rcases List.mem_cons.mp mq with rfl | mq
      · exact hp
      · exact lt q mq
    · have := ok.c2
      simp only [List.length_cons]
      omega
    · have := ok.t
      simp only [List.length_cons]
      omega
    · rcases List.mem_cons.mp mq with rfl | mq
      · refine ⟨(x.c, x.t), ?_, by simp, by simp⟩
        unfold stF
        rw [if_pos ha]
        unfold addF
        rw [if_pos rfl]
        exact List.mem_append_right _ (List.mem_singleton.mpr rfl)
      · obtain ⟨y, m1, m2, m3⟩ := w q mq
        exact ⟨y, addF_sub m1, Nat.le_trans m2 (Nat.le_add_right _ _), Nat.le_trans m3 (Nat.le_add_right _ _)⟩
    · exact ok.other
  · cases m
end FL
namespace FL
open PySem PySem.Spec PyProof.Rows L2
structure Inv (n : Nat) (F : Ff) (B : List Lb) : Prop where
  hist : ∀ x ∈ B, Hist n F x ∧ x.p < n
  ord : ∀ p, (F p).Pairwise fun a b => a.1 < b.1 ∧ b.2 < a.2
  low : ∀ p, ∀ y ∈ F p, y.1 ≤ 990 ∧ y.2 ≤ 990
  lex : ∀ p, ∀ y ∈ F p, ∀ x ∈ B, y.1 < x.c ∨ (y.1 = x.c ∧ y.2 ≤ x.t)
  out : ∀ p, n ≤ p → F p = []
def totF (n : Nat) (F : Ff) : Nat := ((List.range n).map fun p => (F p).length).sum
def mu (n : Nat) (F : Ff) (B : List Lb) : Nat := B.length + 31 * (991 * n - totF n F)
theorem falls {l : List (Nat × Nat)} (h : l.Pairwise fun a b => a.1 < b.1 ∧ b.2 < a.2) (w : ∀ y ∈ l, y.2 ≤ 990) : l.length ≤ 991 := by
  have nd : (l.map (·.2)).Nodup := List.pairwise_map.mpr (h.imp fun q => by omega)
  have := nodup_lt (n := 991) nd fun q m => by
    obtain ⟨y, hy, rfl⟩ := List.mem_map.mp m
    have := w y hy
    omega
  simpa using this
theorem Inv.len {n : Nat} {F : Ff} {B : List Lb} (i : Inv n F B) (p : Nat) : (F p).length ≤ 991 := falls (i.ord p) fun y m => (i.low p y m).2
theorem totF_le {F : Ff} (h : ∀ p, (F p).length ≤ 991) : ∀ n, totF n F ≤ 991 * n
  | 0 => Nat.zero_le _
  | n + 1 => by
    have := totF_le h n
    have := h n
    unfold totF at *
    rw [List.range_succ, List.map_append, List.sum_append, List.map_singleton, List.sum_singleton]
    omega
theorem totF_add {F : Ff} {x : Lb} : ∀ n, totF n (addF F x) = totF n F + if x.p < n then 1 else 0
  | 0 => rfl
  | n + 1 => by
    have ih := totF_add (F := F) (x := x) n
    unfold totF at *
    rw [List.range_succ, List.map_append, List.sum_append, List.map_singleton, List.sum_singleton, List.map_append, List.sum_append, List.map_singleton, List.sum_singleton, ih]
    have e : (addF F x n).length = (F n).length + if n = x.p then 1 else 0 := by
      unfold addF
      split <;> simp
    rw [e]
    split <;> split <;> split <;> omega
theorem acc_iff {n : Nat} {F : Ff} {x : Lb} {B : List Lb} (i : Inv n F (x :: B)) : acc F x = true ↔ ∀ y ∈ F x.p, x.t < y.2 := by
  unfold acc
  rw [List.all_eq_true]
  constructor
  · intro h y m
    have h1 := h y m
    have := i.lex _ y m x List.mem_cons_self
    have h2 : y.1 ≤ x.c := by omega
    simp [h2] at h1
    exact h1
  · intro h y m
    have := h y m
    have h2 : ¬ y.2 ≤ x.t := by omega
    simp [h2]
theorem Inv.step {n : Nat} {rs : List Road} {F : Ff} {x : Lb} {B : List Lb} (hn : NetOk n rs) (i : Inv n F (x :: B)) (m : ∀ y ∈ B, x.le y) : Inv n (stF F x) (B ++ psh rs F x) ∧ mu n (stF F x) (B ++ psh rs F x) < mu n F (x :: B) := by
  have n2 := hn.n2
  have hl := hn.len
  obtain ⟨hx, hp⟩ := i.hist x List.mem_cons_self
  have lo := hx.low
  have hh : ∀ z ∈ B ++ psh rs F x, Hist n (stF F x) z ∧ z.p < n := fun z mz => by
    rcases List.mem_append.mp mz with mz | mz
    · obtain ⟨a, b⟩ := i.hist z (List.mem_cons_of_mem _ mz)
      exact ⟨a.mono, b⟩
    · exact Hist.push hn hp hx mz
  have hc : ∀ z ∈ B ++ psh rs F x, x.c < z.c ∨ (x.c = z.c ∧ x.t ≤ z.t) := fun z mz => by
    rcases List.mem_append.mp mz with mz | mz
    · have := m z mz
      unfold Lb.le at this
      omega
    · unfold psh at mz
      split at mz
      · obtain ⟨r, hr, rfl⟩ := List.mem_map.mp mz
        have ok := hn.all r (List.mem_filter.mp hr).1
        have := ok.c1
        exact .inl (by show x.c < x.c + r.cost; omega)
      · cases mz
  by_cases ha : acc F x = true
  · have hs : stF F x = addF F x := by unfold stF; rw [if_pos ha]
    have hq := (acc_iff i).mp ha
    have hlen : (psh rs F x).length ≤ 30 := by
      unfold psh
      rw [if_pos ha, List.length_map]
      exact Nat.le_trans (List.length_filter_le _ _) hl
    have I2 : Inv n (stF F x) (B ++ psh rs F x) := by
      refine ⟨hh, fun p => ?_, fun p y my => ?_, fun p y my z mz => ?_, fun p h => ?_⟩
      · rw [hs]
        unfold addF
        split
        · rename_i e
          subst e
          rw [List.pairwise_append]
          refine ⟨i.ord _, List.pairwise_singleton _ _, fun a ma b mb => ?_⟩
          rw [List.mem_singleton.mp mb]
          have h1 := hq a ma
          have h2 := i.lex _ a ma x List.mem_cons_self
          show a.1 < x.c ∧ x.t < a.2
          omega
        · exact i.ord p
      · rw [hs] at my
        unfold addF at my
        split at my
        · rcases List.mem_append.mp my with my | my
          · exact i.low p y my
          · rw [List.mem_singleton.mp my]
            show x.c ≤ 990 ∧ x.t ≤ 990
            omega
        · exact i.low p y my
      · rw [hs] at my
        unfold addF at my
        have old : y ∈ F p → y.1 < z.c ∨ (y.1 = z.c ∧ y.2 ≤ z.t) := fun my => by
          have h1 := i.lex p y my x List.mem_cons_self
          have h2 := hc z mz
          omega
        split at my
        · rcases List.mem_append.mp my with my | my
          · exact old my
          · rw [List.mem_singleton.mp my]
            exact hc z mz
        · exact old my
      · rw [hs]
        unfold addF
        rw [if_neg (by omega)]
        exact i.out p h
    refine ⟨I2, ?_⟩
    have t1 := totF_le (fun p => I2.len p) n
    rw [hs] at t1
    have t2 := totF_add (F := F) (x := x) n
    rw [if_pos hp] at t2
    unfold mu
    rw [hs, List.length_append, List.length_cons]
    omega
  · have hs : stF F x = F := by unfold stF; rw [if_neg ha]
    have hz : psh rs F x = [] := by unfold psh; rw [if_neg ha]
    rw [hs, hz, List.append_nil]
    refine ⟨⟨fun z mz => i.hist z (List.mem_cons_of_mem _ mz), i.ord, i.low, fun p y my z mz => i.lex p y my z (List.mem_cons_of_mem _ mz), i.out⟩, ?_⟩
    unfold mu
    rw [List.length_cons]
    omega
theorem Inv.perm {n : Nat} {F : Ff} {B C : List Lb} (i : Inv n F B) (p : B.Perm C) : Inv n F C := ⟨fun x m => i.hist x (p.mem_iff.mpr m), i.ord, i.low, fun q y my x m => i.lex q y my x (p.mem_iff.mpr m), i.out⟩
theorem mu_perm {n : Nat} {F : Ff} {B C : List Lb} (p : B.Perm C) : mu n F B = mu n F C := by unfold mu; rw [p.length_eq]
instance (x y : Lb) : Decidable (x.le y) := by unfold Lb.le; exact inferInstance
theorem Lb.le_refl (x : Lb) : x.le x := by unfold Lb.le; omega
theorem Lb.le_trans {x y z : Lb} (a : x.le y) (b : y.le z) : x.le z := by unfold Lb.le at *; omega
theorem Lb.le_total (x y : Lb) : x.le y ∨ y.le x := by unfold Lb.le; omega
theorem least_ex : ∀ (x : Lb) (B : List Lb), ∃ y C, (x :: B).Perm (y :: C) ∧ ∀ z ∈ C, y.le z
  | x, [] => ⟨x, [], .refl _, by simp⟩
  | x, b :: B => by
    obtain ⟨y, C, p, h⟩ := least_ex b B
    rcases Lb.le_total x y with q | q
    · refine ⟨x, y :: C, List.Perm.cons _ p, fun z m => ?_⟩
      rcases List.mem_cons.mp m with rfl | m
      · exact q
      · exact Lb.le_trans q (h z m)
    · refine ⟨y, x :: C, (List.Perm.cons _ p).trans (.swap ..), fun z m => ?_⟩
      rcases List.mem_cons.mp m with rfl | m
      · exact q
      · exact h z m
theorem run_end {n : Nat} {rs : List Road} (hn : NetOk n rs) : ∀ (k : Nat) (F : Ff) (B : List Lb), mu n F B < k → Inv n F B → ∃ G, Run rs F B G
  | 0, _, _, h, _ => absurd h (Nat.not_lt_zero _)
  | k + 1, F, [], _, _ => ⟨F, .done F⟩
  | k + 1, F, b :: B, h, i => by
    obtain ⟨x, C, p, q⟩ := least_ex b B
    obtain ⟨j, l⟩ := (i.perm p).step hn q
    rw [← mu_perm p] at l
    obtain ⟨G, r⟩ := run_end hn k _ _ (by omega) j
    exact ⟨G, .step x p q r⟩
def Fe : Ff := fun _ => []
theorem inv0 {n s : Nat} (hs : s < n) : Inv n Fe [⟨0, 0, s⟩] := by
  refine ⟨fun x m => ?_, fun p => .nil, fun p y m => (by cases m), fun p y m => (by cases m), fun _ _ => rfl⟩
  rw [List.mem_singleton.mp m]
  exact ⟨⟨[], List.nodup_nil, by simp, by simp, by simp, by simp⟩, hs⟩
theorem mu0 {n s : Nat} (hn : n ≤ 10) : mu n Fe [⟨0, 0, s⟩] ≤ 310000 := by
  unfold mu
  simp
  omega
theorem run_ex0 {n s : Nat} {rs : List Road} (hn : NetOk n rs) (hs : s < n) : ∃ G, Run rs Fe [⟨0, 0, s⟩] G := run_end hn _ _ _ (Nat.lt_succ_self _) (inv0 hs)
theorem Run.inv {n : Nat} {rs : List Road} {F G : Ff} {B : List Lb} (hn : NetOk n rs) (r : Run rs F B G) : Inv n F B → Inv n G [] := by
  induction r with
  | done F => exact id
  | step x p m r ih => exact fun i => ih ((i.perm p).step hn m).1
def ctD (y : Nat × Nat) : PyData := .tuple [.int (y.1 : Nat), .int (y.2 : Nat)]
def ffL (n : Nat) (F : Ff) : List (List PyData) := rowsL n fun p => (F p).map ctD
def fenceD (n : Nat) (F : Ff) : PyData := .tuple ((List.range n).map fun p => .tuple ((F p).map ctD))
end FL
namespace FL
open PySem PySem.Spec PyProof.Rows L2
def Road.abt (r : Road) : Road := ⟨r.other, r.one, r.cost, r.time⟩
def abtR (rs : List Road) : List Road := rs.map Road.abt
def tmW (rs : List Road) (ws : List Nat) : Nat := (ws.map fun k => (rdK rs k).time).sum
theorem tmW_cons {rs : List Road} {k : Nat} {a : List Nat} : tmW rs (k :: a) = (rdK rs k).time + tmW rs a := by simp [tmW]
theorem tmW_app {rs : List Road} {a b : List Nat} : tmW rs (a ++ b) = tmW rs a + tmW rs b := by simp [tmW]
theorem abt_ok {n : Nat} {rs : List Road} (h : NetOk n rs) : NetOk n (abtR rs) := ⟨h.n1, h.n2, by unfold abtR; rw [List.length_map]; exact h.len, fun r m => by
  obtain ⟨q, mq, rfl⟩ := List.mem_map.mp m
  have ok := h.all q mq
  exact ⟨ok.other, ok.one, fun e => ok.ne e.symm, ok.c1, ok.c2, ok.t⟩⟩
def Rlz (rs : List Road) (g p c t : Nat) : Prop := ∃ w, Wy rs p w g ∧ cW rs w = c ∧ tmW rs w = t
def Cvd (F : Ff) (B : List Lb) (c t p : Nat) : Prop := (∃ y ∈ F p, y.1 ≤ c ∧ y.2 ≤ t) ∨ ∃ b ∈ B, b.p = p ∧ b.c ≤ c ∧ b.t ≤ t
structure Lbs (rs : List Road) (g : Nat) (F : Ff) (B : List Lb) : Prop where
  f : ∀ p y, y ∈ F p → Rlz rs g p y.1 y.2
  b : ∀ x ∈ B, Rlz rs g x.p x.c x.t
  z : Cvd F B 0 0 g
  s : ∀ p y, y ∈ F p → ∀ r ∈ rs, r.other = p → Cvd F B (y.1 + r.cost) (y.2 + r.time) r.one
theorem st_mem {F : Ff} {x : Lb} {q : Nat} {y : Nat × Nat} (m : y ∈ stF F x q) : y ∈ F q ∨ (acc F x = true ∧ q = x.p ∧ y = (x.c, x.t)) := by
  unfold stF at m
  split at m
  · rename_i h
    unfold addF at m
    split at m
    · rename_i e
      rcases List.mem_append.mp m with m | m
      · exact .inl m
      · exact .inr ⟨h, e, List.mem_singleton.mp m⟩
    · exact .inl m
  · exact .inl m
theorem st_new {F : Ff} {x : Lb} (h : acc F x = true) : (x.c, x.t) ∈ stF F x x.p := by
  unfold stF
  rw [if_pos h]
  unfold addF
  rw [if_pos rfl]
  exact List.mem_append_right _ (List.mem_singleton.mpr rfl)
theorem acc_not {F : Ff} {x : Lb} (h : ¬ acc F x = true) : ∃ y ∈ F x.p, y.1 ≤ x.c ∧ y.2 ≤ x.t := by
  unfold acc at h
  rw [List.all_eq_true] at h
  refine Classical.byContradiction fun z => h fun y my => ?_
  by_cases a : y.1 ≤ x.c
  · by_cases b : y.2 ≤ x.t
    · exact absurd ⟨y, my, a, b⟩ z
    · simp [b]
  · simp [a]
theorem psh_abt {rs : List Road} {F : Ff} {x z : Lb} : z ∈ psh (abtR rs) F x ↔ acc F x = true ∧ ∃ r ∈ rs, r.other = x.p ∧ z = ⟨x.c + r.cost, x.t + r.time, r.one⟩ := by
  unfold psh
  by_cases h : acc F x = true
  · rw [if_pos h, List.mem_map]
    constructor
    · rintro ⟨r, mr, rfl⟩
      obtain ⟨m1, m2⟩ := List.mem_filter.mp mr
      obtain ⟨q, mq, rfl⟩ := List.mem_map.mp m1
      exact ⟨h, q, mq, of_decide_eq_true m2, rfl⟩
    · rintro ⟨_, r, mr, e, rfl⟩
      exact ⟨r.abt, List.mem_filter.mpr ⟨List.mem_map.mpr ⟨r, mr, rfl⟩, decide_eq_true e⟩, rfl⟩
  · rw [if_neg h]
    simp [h]
theorem Cvd.step {rs : List Road} {F : Ff} {x : Lb} {B : List Lb} {c t p : Nat} (h : Cvd F (x :: B) c t p) : Cvd (stF F x) (B ++ psh rs F x) c t p := by
  rcases h with ⟨y, m, a, b⟩ | ⟨y, m, e, a, b⟩
  · exact .inl ⟨y, addF_sub m, a, b⟩
  · rcases List.mem_cons.mp m with rfl | m
    · by_cases h : acc F y = true
      · exact .inl ⟨_, by rw [← e]; exact st_new h, a, b⟩
      · obtain ⟨z, mz, z1, z2⟩ := acc_not h
        exact .inl ⟨z, by rw [← e]; exact addF_sub mz, Nat.le_trans z1 a, Nat.le_trans z2 b⟩
    · exact .inr ⟨y, List.mem_append_left _ m, e, a, b⟩
theorem Cvd.perm {F : Ff} {B C : List Lb} {c t p : Nat} (h : Cvd F B c t p) (q : B.Perm C) : Cvd F C c t p := by
  rcases h with h | ⟨y, m, r⟩
  · exact .inl h
  · exact .inr ⟨y, q.mem_iff.mp m, r⟩
theorem Lbs.step {rs : List Road} {g : Nat} {F : Ff} {x : Lb} {B : List Lb} (i : Lbs rs g F (x :: B)) : Lbs rs g (stF F x) (B ++ psh (abtR rs) F x) := by
  have hx := i.b x List.mem_cons_self
  refine ⟨fun p y m => ?_, fun z m => ?_, i.z.step, fun p y m r mr e => ?_⟩
  · rcases st_mem m with m | ⟨_, rfl, rfl⟩
    · exact i.f p y m
    · exact hx
  · rcases List.mem_append.mp m with m | m
    · exact i.b z (List.mem_cons_of_mem _ m)
    · obtain ⟨_, r, mr, e, rfl⟩ := psh_abt.mp m
      obtain ⟨w, w1, w2, w3⟩ := hx
      obtain ⟨k, hk, ek⟩ := List.getElem_of_mem mr
      have ek : rs[k]? = some r := by rw [List.getElem?_eq_getElem hk, ek]
      refine ⟨k :: w, ⟨r, ek, rfl, by rw [e]; exact w1⟩, ?_, ?_⟩
      · rw [cW_cons, rdK_of ek, w2]; exact Nat.add_comm _ _
      · rw [tmW_cons, rdK_of ek, w3]; exact Nat.add_comm _ _
  · rcases st_mem m with m | ⟨h, rfl, rfl⟩
    · exact (i.s p y m r mr e).step
    · exact .inr ⟨_, List.mem_append_right _ (psh_abt.mpr ⟨h, r, mr, e, rfl⟩), rfl, Nat.le_refl _, Nat.le_refl _⟩
theorem Lbs.perm {rs : List Road} {g : Nat} {F : Ff} {B C : List Lb} (i : Lbs rs g F B) (q : B.Perm C) : Lbs rs g F C :=
  ⟨i.f, fun x m => i.b x (q.mem_iff.mpr m), i.z.perm q, fun p y m r mr e => (i.s p y m r mr e).perm q⟩
theorem Lbs.run {rs : List Road} {g : Nat} {F G : Ff} {B : List Lb} (r : Run (abtR rs) F B G) : Lbs rs g F B → Lbs rs g G [] := by
  induction r with
  | done F => exact id
  | step x p m r ih => exact fun i => ih (i.perm p).step
structure Frn (rs : List Road) (g : Nat) (G : Ff) : Prop where
  ord : ∀ p, (G p).Pairwise fun a b => a.1 < b.1 ∧ b.2 < a.2
  way : ∀ p y, y ∈ G p → Rlz rs g p y.1 y.2
  cov : ∀ p w, Wy rs p w g → ∃ y ∈ G p, y.1 ≤ cW rs w ∧ y.2 ≤ tmW rs w
theorem frn_of {n g : Nat} {rs : List Road} {G : Ff} (hn : NetOk n rs) (hg : g < n) (r : Run (abtR rs) Fe [⟨0, 0, g⟩] G) : Frn rs g G := by
  have i0 : Lbs rs g Fe [⟨0, 0, g⟩] := ⟨fun p y m => (nomatch m), fun x m => by
    rw [List.mem_singleton.mp m]
    exact ⟨[], rfl, rfl, rfl⟩, .inr ⟨_, List.mem_singleton.mpr rfl, rfl, Nat.le_refl _, Nat.le_refl _⟩, fun p y m => (nomatch m)⟩
  have i := Lbs.run r i0
  have v := r.inv (abt_ok hn) (inv0 hg)
  have end_ : ∀ {c t p : Nat}, Cvd G [] c t p → ∃ y ∈ G p, y.1 ≤ c ∧ y.2 ≤ t := fun h => by
    rcases h with h | ⟨_, m, _⟩
    · exact h
    · cases m
  refine ⟨v.ord, i.f, fun p w => ?_⟩
  induction w generalizing p with
  | nil => rintro rfl; exact end_ i.z
  | cons k w ih =>
    rintro ⟨r, e, rfl, h⟩
    obtain ⟨y, my, y1, y2⟩ := ih _ h
    obtain ⟨z, mz, z1, z2⟩ := end_ (i.s _ y my r (List.mem_of_getElem? e) rfl)
    refine ⟨z, mz, ?_, ?_⟩
    · rw [cW_cons, rdK_of e]; omega
    · rw [tmW_cons, rdK_of e]; omega
theorem ord_eq {l : List (Nat × Nat)} (h : l.Pairwise fun a b => a.1 < b.1 ∧ b.2 < a.2) {y z : Nat × Nat} (my : y ∈ l) (mz : z ∈ l) (h1 : y.1 ≤ z.1) (h2 : y.2 ≤ z.2) : y = z := by
  induction l with
  | nil => cases my
  | cons x l ih =>
    obtain ⟨a, b⟩ := List.pairwise_cons.mp h
    rcases List.mem_cons.mp my with e1 | m1
    · rcases List.mem_cons.mp mz with e2 | m2
      · rw [e1, e2]
      · have := a z m2; rw [← e1] at this; omega
    · rcases List.mem_cons.mp mz with e2 | m2
      · have := a y m1; rw [← e2] at this; omega
      · exact ih b m1 m2
theorem Frn.tail {rs : List Road} {g p k : Nat} {G : Ff} {w : List Nat} {r : Road} (f : Frn rs g G) (e : rs[k]? = some r) (o : r.one = p) (hw : Wy rs r.other w g) (m : (r.cost + cW rs w, r.time + tmW rs w) ∈ G p) : (cW rs w, tmW rs w) ∈ G r.other := by
  obtain ⟨z, mz, z1, z2⟩ := f.cov _ w hw
  obtain ⟨v, v1, v2, v3⟩ := f.way _ z mz
  obtain ⟨u, mu_, u1, u2⟩ := f.cov p (k :: v) ⟨r, e, o, v1⟩
  rw [cW_cons, rdK_of e, v2] at u1
  rw [tmW_cons, rdK_of e, v3] at u2
  have := ord_eq (f.ord p) mu_ m (by show u.1 ≤ _; dsimp only; omega) (by show u.2 ≤ _; dsimp only; omega)
  have h1 : u.1 = r.cost + cW rs w := by rw [this]
  have h2 : u.2 = r.time + tmW rs w := by rw [this]
  have : z = (cW rs w, tmW rs w) := Prod.ext (by show z.1 = cW rs w; omega) (by show z.2 = tmW rs w; omega)
  rw [← this]
  exact mz
theorem wy_at {rs : List Road} {g q : Nat} : ∀ {w : List Nat} {p : Nat}, Wy rs p w g → q ∈ plW rs p w → ∃ a b, w = a ++ b ∧ Wy rs p a q ∧ Wy rs q b g
  | [], p, h, m => by
    have : q = p := by simpa [plW, oth] using m
    subst this
    exact ⟨[], [], rfl, rfl, h⟩
  | k :: w, p, h, m => by
    by_cases z : q = p
    · subst z
      exact ⟨[], k :: w, rfl, rfl, h⟩
    · obtain ⟨r, e, o, hw⟩ := h
      have m2 : q ∈ plW rs r.other w := by
        rcases List.mem_cons.mp m with h | h
        · exact absurd h z
        · rw [oth_cons, rdK_of e] at h
          exact h
      obtain ⟨a, b, rfl, h1, h2⟩ := wy_at hw m2
      exact ⟨k :: a, b, rfl, ⟨r, e, o, h1⟩, h2⟩
theorem Frn.simple {n : Nat} {rs : List Road} {g : Nat} {G : Ff} (hn : NetOk n rs) (f : Frn rs g G) : ∀ {w : List Nat} {p : Nat}, Wy rs p w g → (cW rs w, tmW rs w) ∈ G p → (plW rs p w).Nodup
  | [], p, _, _ => by simp [plW, oth]
  | k :: w, p, ⟨r, e, o, h⟩, m => by
    rw [cW_cons, tmW_cons, rdK_of e] at m
    have mt := f.tail e o h m
    have nd := Frn.simple hn f h mt
    have c1 := (hn.all r (List.mem_of_getElem? e)).c1
    show (p :: oth rs (k :: w)).Nodup
    rw [oth_cons, rdK_of e, List.nodup_cons]
    refine ⟨fun mp => ?_, nd⟩
    obtain ⟨a, b, rfl, h1, h2⟩ := wy_at h mp
    obtain ⟨z, mz, z1, z2⟩ := f.cov p b h2
    rw [cW_app, tmW_app] at m
    have := ord_eq (f.ord p) mz m (by show z.1 ≤ _; dsimp only; omega) (by show z.2 ≤ _; dsimp only; omega)
    have h3 : z.1 = r.cost + (cW rs a + cW rs b) := by rw [this]
    omega
def goB (rs : List Road) (G : Ff) (p c t k : Nat) : Bool := decide ((rdK rs k).one = p) && decide ((rdK rs k).cost ≤ c ∧ (rdK rs k).time ≤ t ∧ (c - (rdK rs k).cost, t - (rdK rs k).time) ∈ G (rdK rs k).other)
def goL2 (rs : List Road) (G : Ff) (p c t : Nat) : List Nat := (List.range rs.length).filter (goB rs G p c t)
inductive Ww (rs : List Road) (G : Ff) : Nat → Nat → Nat → List Nat → Prop
  | nil (p t : Nat) : Ww rs G p 0 t []
  | cons {p c t k : Nat} {ks v : List Nat} : 0 < c → goL2 rs G p c t = k :: ks → (rdK rs k).cost ≤ c → (rdK rs k).time ≤ t → Ww rs G (rdK rs k).other (c - (rdK rs k).cost) (t - (rdK rs k).time) v → Ww rs G p c t (k :: v)
theorem go_mem2 {rs : List Road} {G : Ff} {p c t k : Nat} : k ∈ goL2 rs G p c t ↔ ∃ r, rs[k]? = some r ∧ r.one = p ∧ r.cost ≤ c ∧ r.time ≤ t ∧ (c - r.cost, t - r.time) ∈ G r.other := by
  unfold goL2
  rw [List.mem_filter, List.mem_range]
  unfold goB
  constructor
  · rintro ⟨hk, h⟩
    have e : rs[k]? = some rs[k] := List.getElem?_eq_getElem hk
    rw [rdK_of e, Bool.and_eq_true, decide_eq_true_eq, decide_eq_true_eq] at h
    exact ⟨_, e, h.1, h.2⟩
  · rintro ⟨r, e, h1, h2⟩
    rw [rdK_of e, Bool.and_eq_true, decide_eq_true_eq, decide_eq_true_eq]
    exact ⟨(List.getElem?_eq_some_iff.mp e).1, h1, h2⟩
theorem rng_head2 {P : Nat → Bool} {n k : Nat} {ks : List Nat} (h : (List.range n).filter P = k :: ks) : ∀ j ∈ (List.range n).filter P, k ≤ j := by
  have pw : ((List.range n).filter P).Pairwise (· < ·) := List.Pairwise.filter _ List.pairwise_lt_range
  rw [h] at pw ⊢
  intro j m
  rcases List.mem_cons.mp m with rfl | m
  · exact Nat.le_refl _
  · exact Nat.le_of_lt ((List.pairwise_cons.mp pw).1 j m)
theorem inW_cons_le2 {k k' : Nat} {v v' : List Nat} (h : k < k' ∨ (k = k' ∧ inW v ≤ inW v')) : inW (k :: v) ≤ inW (k' :: v') := by
  show (k : Int) :: inW v ≤ (k' : Int) :: inW v'
  rw [List.cons_le_cons_iff]
  rcases h with h | ⟨h, i⟩
  · exact .inl (by omega)
  · exact .inr ⟨by omega, i⟩
theorem ww_ex {n : Nat} {rs : List Road} {g : Nat} {G : Ff} (hn : NetOk n rs) (f : Frn rs g G) : ∀ (m c p t : Nat), c < m → (c, t) ∈ G p → ∃ v, Ww rs G p c t v ∧ Wy rs p v g ∧ cW rs v = c ∧ tmW rs v = t ∧ ∀ w, Wy rs p w g → cW rs w = c → tmW rs w = t → inW v ≤ inW w
  | 0, _, _, _, h, _ => absurd h (Nat.not_lt_zero _)
  | m + 1, c, p, t, hc, mg => by
    obtain ⟨w0, a1, a2, a3⟩ := f.way p _ mg
    dsimp only at a2 a3
    have good : ∀ {k : Nat} {w : List Nat}, Wy rs p (k :: w) g → cW rs (k :: w) = c → tmW rs (k :: w) = t → k ∈ goL2 rs G p c t := fun {k w} hw h1 h2 => by
      obtain ⟨r, e, o, hw⟩ := hw
      rw [cW_cons, rdK_of e] at h1
      rw [tmW_cons, rdK_of e] at h2
      have mt := f.tail e o hw (by rw [h1, h2]; exact mg)
      refine go_mem2.mpr ⟨r, e, o, by omega, by omega, ?_⟩
      rw [show c - r.cost = cW rs w by omega, show t - r.time = tmW rs w by omega]
      exact mt
    cases w0 with
    | nil =>
      have hc0 : 0 = c := a2
      have ht0 : 0 = t := a3
      subst hc0
      subst ht0
      exact ⟨[], .nil p 0, a1, rfl, rfl, fun w _ _ _ => List.nil_le _⟩
    | cons k0 w0 =>
      have m0 := good a1 a2 a3
      cases eg : goL2 rs G p c t with
      | nil => rw [eg] at m0; cases m0
      | cons k ks =>
        obtain ⟨r, e, o, l1, l2, mt⟩ := go_mem2.mp (show k ∈ goL2 rs G p c t by rw [eg]; exact List.mem_cons_self)
        have c1 := (hn.all r (List.mem_of_getElem? e)).c1
        obtain ⟨v, v1, v2, v3, v4, v5⟩ := ww_ex hn f m (c - r.cost) r.other (t - r.time) (by omega) mt
        have er := rdK_of e
        refine ⟨k :: v, .cons (by omega) eg (by rw [er]; exact l1) (by rw [er]; exact l2) (by rw [er]; exact v1), ⟨r, e, o, v2⟩, by rw [cW_cons, er]; omega, by rw [tmW_cons, er]; omega, fun w hw h1 h2 => ?_⟩
        cases w with
        | nil =>
          have : 0 = c := h1
          omega
        | cons k' w =>
          have hle := rng_head2 eg k' (good hw h1 h2)
          obtain ⟨r', e', o', hw'⟩ := hw
          rcases Nat.lt_or_eq_of_le hle with q | q
          · exact inW_cons_le2 (.inl q)
          · subst q
            rw [e] at e'
            cases e'
            rw [cW_cons, er] at h1
            rw [tmW_cons, er] at h2
            exact inW_cons_le2 (.inr ⟨rfl, v5 w hw' (by omega) (by omega)⟩)
end FL
namespace FL
open PySem PySem.Spec PyProof.Rows L2 PySem.W
def tpD (x : Lb) : PyData := .tuple [.int (x.t : Nat), .int (x.p : Nat)]
def leT (a b : Lb) : Bool := decide (a.t < b.t ∨ (a.t = b.t ∧ a.p ≤ b.p))
theorem lt_tp (a b : Lb) : dataLt (tpD a) (tpD b) = decide (a.t < b.t ∨ (a.t = b.t ∧ a.p < b.p)) := by
  have := lt_pair (a.t, a.p) (b.t, b.p)
  exact this
theorem srt_tp (xs : List Lb) : srtD (xs.map tpD) = (xs.mergeSort leT).map tpD := by
  unfold srtD
  refine (List.map_mergeSort (r := leT) (s := dataLe false id) (f := tpD) (l := xs) fun a _ b _ => ?_).symm
  show leT a b = !dataLt (tpD b) (tpD a)
  rw [lt_tp]
  unfold leT
  rw [← decide_not, decide_eq_decide]
  omega
theorem sort_tpB (xs : List Lb) (hl : xs.length ≤ 16777216) : sortB (xs.map tpD) = true := by
  unfold sortB
  simp only [Bool.and_eq_true, List.all_eq_true, decide_eq_true_eq, Bool.not_eq_true', List.length_map]
  refine ⟨⟨⟨⟨fun d m e m' => ?_, fun d m => ?_⟩, fun d m => ?_⟩, fun d m => ?_⟩, hl⟩
  · obtain ⟨a, _, rfl⟩ := List.mem_map.mp m
    obtain ⟨b, _, rfl⟩ := List.mem_map.mp m'
    simp [tpD, alike, alikeAll]
  · obtain ⟨a, _, rfl⟩ := List.mem_map.mp m
    rfl
  · obtain ⟨a, _, rfl⟩ := List.mem_map.mp m
    simp [tpD, PyData.depth, PyData.depthAll]
  · obtain ⟨a, _, rfl⟩ := List.mem_map.mp m
    rfl
theorem srt_pw (xs : List Lb) : (xs.mergeSort leT).Pairwise fun a b => leT a b = true := List.pairwise_mergeSort (fun a b c h1 h2 => by
  unfold leT at *
  simp only [decide_eq_true_eq] at *
  omega) (fun a b => by
  unfold leT
  simp only [Bool.or_eq_true, decide_eq_true_eq]
  omega) xs
theorem lay_ct2 {xs : List (Nat × Nat)} : ∀ d ∈ xs.map ctD, d.canLay0 = true ∧ d.depth ≤ 1 := fun d m => by
  obtain ⟨x, _, rfl⟩ := List.mem_map.mp m
  simp [ctD, PyData.canLay0, PyData.canLayAll0, PyData.depth, PyData.depthAll]
def pshB (rs : List Road) (x : Lb) : List Lb := (rs.filter fun r => decide (r.one = x.p)).map fun r => ⟨x.c + r.cost, x.t + r.time, r.other⟩
theorem psh_accB {rs : List Road} {F : Ff} {x : Lb} (h : acc F x = true) : psh rs F x = pshB rs x := by unfold psh pshB; rw [if_pos h]
theorem ffL_setB {n : Nat} {F : Ff} {x : Lb} (h : x.p < n) : (ffL n F).set x.p ((F x.p).map ctD ++ [ctD (x.c, x.t)]) = ffL n (addF F x) := by
  unfold ffL
  rw [rowsL_set h]
  congr 1
  funext q
  unfold addF
  split
  · rename_i e
    subst e
    simp
  · rfl
theorem look_app {ks : List (Key × Nat)} {k k' : Key} {i : Nat} : lookN (ks ++ [(k, i)]) k' = (lookN ks k').or (if k = k' then some i else none) := by
  unfold lookN
  rw [List.find?_append]
  cases ks.find? fun r => decide (r.1 = k') with
  | some r => rfl
  | none =>
    by_cases e : k = k' <;> simp [e]
theorem look_drop {k k' : Key} : ∀ {ks : List (Key × Nat)}, lookN (dropN ks k) k' = if k' = k then none else lookN ks k'
  | [] => by simp [lookN, dropN]
  | r :: ks => by
    have ih := look_drop (k := k) (k' := k') (ks := ks)
    unfold lookN dropN at *
    by_cases e : r.1 = k
    · rw [List.filter_cons, if_neg (by simp [e]), ih, List.find?_cons]
      by_cases e2 : k' = k
      · rw [if_pos e2, if_pos e2]
      · have : ¬ r.1 = k' := fun z => e2 (by rw [← z, e])
        rw [if_neg e2, if_neg e2]
        simp [this]
    · rw [List.filter_cons, if_pos (by simp [e]), List.find?_cons, List.find?_cons]
      by_cases e2 : r.1 = k'
      · have : ¬ k' = k := fun z => e (by rw [e2, z])
        simp [e2, this]
      · simp [e2]
        simpa using ih
theorem look_memK {ks : List (Key × Nat)} {k : Key} {i : Nat} (e : lookN ks k = some i) : (k, i) ∈ ks := by
  unfold lookN at e
  obtain ⟨r, e1, e2⟩ := Option.map_eq_some_iff.mp e
  have := List.find?_some e1
  have h1 : r.1 = k := by simpa using this
  have m := List.mem_of_find?_eq_some e1
  rw [← h1, ← e2]
  exact m
theorem look_none {ks : List (Key × Nat)} {k : Key} (e : lookN ks k = none) : ∀ r ∈ ks, r.1 ≠ k := fun r m z => by
  unfold lookN at e
  rw [Option.map_eq_none_iff, List.find?_eq_none] at e
  exact e r m (by simp [z])
def atLb (B : List Lb) (k : Nat) : List Lb := B.filter fun x => decide (x.c = k)
structure HasW (dss : List (List PyData)) (ks : List (Key × Nat)) (c : Nat) (B : List Lb) : Prop where
  at_ : ∀ k : Nat, (∃ i, lookN ks (.inl (k : Int)) = some i ∧ dss[i]? = some ((atLb B k).map tpD)) ∨ (lookN ks (.inl (k : Int)) = none ∧ atLb B k = [])
  inj : ∀ k k' i, lookN ks k = some i → lookN ks k' = some i → k = k'
  key : ∀ r ∈ ks, ∃ k : Nat, r.1 = .inl (k : Int) ∧ c ≤ k ∧ k ≤ 1100
  nd : (ks.map (·.1)).Nodup
theorem keyI {a b : Nat} (h : (Sum.inl (a : Int) : Key) = .inl (b : Int)) : a = b := by
  have := Sum.inl.inj h
  omega
theorem HasW.len {dss : List (List PyData)} {ks : List (Key × Nat)} {c : Nat} {B : List Lb} (h : HasW dss ks c B) : ks.length ≤ 1101 := by
  have key : ∀ ks : List (Key × Nat), (∀ r ∈ ks, ∃ k : Nat, r.1 = .inl (k : Int) ∧ k ≤ 1100) → (ks.map (·.1)).Nodup → ∃ L : List Nat, L.length = ks.length ∧ L.Nodup ∧ (∀ q ∈ L, q < 1101) ∧ ∀ q ∈ L, (Sum.inl (q : Int) : Key) ∈ ks.map (·.1) := by
    intro ks
    induction ks with
    | nil => exact fun _ _ => ⟨[], rfl, List.nodup_nil, by simp, by simp⟩
    | cons r ks ih =>
      intro h nd
      rw [List.map_cons, List.nodup_cons] at nd
      obtain ⟨L, h1, h2, h3, h4⟩ := ih (fun x m => h x (List.mem_cons_of_mem _ m)) nd.2
      obtain ⟨k, e, hk⟩ := h r List.mem_cons_self
      refine ⟨k :: L, by simp [h1], List.nodup_cons.mpr ⟨fun z => nd.1 (by rw [e]; exact h4 k z), h2⟩, fun q m => ?_, fun q m => ?_⟩
      · rcases List.mem_cons.mp m with rfl | m
        · omega
        · exact h3 q m
      · rcases List.mem_cons.mp m with rfl | m
        · rw [List.map_cons, e]; exact List.mem_cons_self
        · exact List.mem_cons_of_mem _ (h4 q m)
  obtain ⟨L, h1, h2, h3, _⟩ := key ks (fun r m => let ⟨k, e, _, hk⟩ := h.key r m; ⟨k, e, hk⟩) h.nd
  rw [← h1]
  exact nodup_lt h2 h3
theorem HasW.lt {dss : List (List PyData)} {ks : List (Key × Nat)} {c : Nat} {B : List Lb} (h : HasW dss ks c B) {k : Key} {i : Nat} (e : lookN ks k = some i) : i < dss.length := by
  obtain ⟨q, e1, _⟩ := h.key _ (look_memK e)
  have e1 : k = .inl (q : Int) := e1
  subst e1
  rcases h.at_ q with ⟨j, e2, e3⟩ | ⟨e2, _⟩
  · rw [e] at e2
    cases e2
    exact (List.getElem?_eq_some_iff.mp e3).1
  · rw [e] at e2; cases e2
theorem atC_app {B : List Lb} {x : Lb} {k : Nat} : atLb (B ++ [x]) k = atLb B k ++ if x.c = k then [x] else [] := by
  unfold atLb
  rw [List.filter_append]
  congr 1
  by_cases e : x.c = k <;> simp [e]
theorem HasW.old {dss : List (List PyData)} {ks : List (Key × Nat)} {c i : Nat} {B : List Lb} {x : Lb} (h : HasW dss ks c B) (e : lookN ks (.inl (x.c : Int)) = some i) : dss[i]? = some ((atLb B x.c).map tpD) ∧ HasW (dss.set i ((atLb B x.c).map tpD ++ [tpD x])) ks c (B ++ [x]) := by
  have hi := h.lt e
  have e0 : dss[i]? = some ((atLb B x.c).map tpD) := by
    rcases h.at_ x.c with ⟨j, e2, e3⟩ | ⟨e2, _⟩
    · rw [e] at e2; cases e2; exact e3
    · rw [e] at e2; cases e2
  refine ⟨e0, fun k => ?_, h.inj, h.key, h.nd⟩
  rw [atC_app]
  by_cases q : x.c = k
  · subst q
    refine .inl ⟨i, e, ?_⟩
    rw [List.getElem?_set, if_pos rfl, if_pos hi, if_pos rfl, List.map_append]
    rfl
  · rw [if_neg q, List.append_nil]
    rcases h.at_ k with ⟨j, e2, e3⟩ | w
    · refine .inl ⟨j, e2, ?_⟩
      have : i ≠ j := fun z => q (keyI (h.inj _ _ _ e (by rw [z]; exact e2)))
      rw [List.getElem?_set_ne this]
      exact e3
    · exact .inr w
theorem HasW.new {dss : List (List PyData)} {ks : List (Key × Nat)} {c : Nat} {B : List Lb} {x : Lb} (h : HasW dss ks c B) (e : lookN ks (.inl (x.c : Int)) = none) (h1 : c ≤ x.c) (h2 : x.c ≤ 1100) : HasW ((dss ++ [[]]).set dss.length ([] ++ [tpD x])) (ks ++ [(.inl (x.c : Int), dss.length)]) c (B ++ [x]) := by
  have ha : atLb B x.c = [] := by
    rcases h.at_ x.c with ⟨j, e2, e3⟩ | ⟨_, w⟩
    · rw [e] at e2; cases e2
    · exact w
  refine ⟨fun k => ?_, fun k k' i q1 q2 => ?_, fun r m => ?_, ?_⟩
  · rw [atC_app, look_app]
    by_cases q : x.c = k
    · subst q
      refine .inl ⟨dss.length, by rw [e, if_pos rfl]; rfl, ?_⟩
      rw [List.getElem?_set, if_pos rfl, if_pos (by simp), if_pos rfl, ha]
      rfl
    · have q' : ¬ (Sum.inl (x.c : Int) : Key) = .inl (k : Int) := fun z => q (keyI z)
      rw [if_neg q, List.append_nil, if_neg q', Option.or_none]
      rcases h.at_ k with ⟨j, e2, e3⟩ | w
      · have hj := h.lt e2
        refine .inl ⟨j, e2, ?_⟩
        rw [List.getElem?_set_ne (by omega), List.getElem?_append_left hj]
        exact e3
      · exact .inr w
  · rw [look_app] at q1 q2
    cases w1 : lookN ks k with
    | some a =>
      rw [w1] at q1
      have q1 : a = i := Option.some.inj q1
      subst q1
      have l1 := h.lt w1
      cases w2 : lookN ks k' with
      | some b =>
        rw [w2] at q2
        have q2 : b = a := Option.some.inj q2
        subst q2
        exact h.inj k k' b w1 w2
      | none =>
        rw [w2, Option.none_or] at q2
        split at q2
        · cases q2; omega
        · cases q2
    | none =>
      rw [w1, Option.none_or] at q1
      split at q1
      · rename_i z1
        cases q1
        cases w2 : lookN ks k' with
        | some b =>
          rw [w2] at q2
          have q2 : b = dss.length := Option.some.inj q2
          have := h.lt w2
          omega
        | none =>
          rw [w2, Option.none_or] at q2
          split at q2
          · rename_i z2
            rw [← z1, ← z2]
          · cases q2
      · cases q1
  · rcases List.mem_append.mp m with m | m
    · exact h.key r m
    · rw [List.mem_singleton.mp m]
      exact ⟨x.c, rfl, h1, h2⟩
  · rw [List.map_append, List.nodup_append]
    refine ⟨h.nd, by simp, fun a m b m2 z => ?_⟩
    obtain ⟨r, mr, rfl⟩ := List.mem_map.mp m
    have : b = .inl (x.c : Int) := by simpa using m2
    exact look_none e r mr (by rw [z, this])
theorem atC_ne {B : List Lb} {c k : Nat} (h : k ≠ c) : atLb (B.filter fun x => !decide (x.c = c)) k = atLb B k := by
  unfold atLb
  rw [List.filter_filter]
  congr 1
  funext x
  by_cases e : x.c = k
  · have : ¬ x.c = c := fun z => h (by rw [← e, z])
    simp [e, h]
  · simp [e]
theorem atC_eq {B : List Lb} {c : Nat} : atLb (B.filter fun x => !decide (x.c = c)) c = [] := by
  unfold atLb
  rw [List.filter_filter, List.filter_eq_nil_iff]
  intro x _
  by_cases e : x.c = c <;> simp [e]
theorem HasW.pop {dss : List (List PyData)} {ks : List (Key × Nat)} {c : Nat} {B : List Lb} (h : HasW dss ks c B) : HasW dss (dropN ks (.inl (c : Int))) (c + 1) (B.filter fun x => !decide (x.c = c)) := by
  refine ⟨fun k => ?_, fun k k' i q1 q2 => ?_, fun r m => ?_, ?_⟩
  · rw [look_drop]
    by_cases q : k = c
    · subst q
      rw [if_pos rfl, atC_eq]
      exact .inr ⟨rfl, rfl⟩
    · rw [if_neg (fun z => q (keyI z)), atC_ne q]
      exact h.at_ k
  · rw [look_drop] at q1 q2
    split at q1
    · cases q1
    · split at q2
      · cases q2
      · exact h.inj k k' i q1 q2
  · obtain ⟨m1, m2⟩ := List.mem_filter.mp m
    obtain ⟨k, e, l1, l2⟩ := h.key r m1
    refine ⟨k, e, ?_, l2⟩
    have : k ≠ c := fun z => by
      subst z
      rw [e] at m2
      simp at m2
    omega
  · exact h.nd.sublist (List.Sublist.map _ List.filter_sublist)
theorem HasW.drop {dss : List (List PyData)} {ks : List (Key × Nat)} {c : Nat} {B : List Lb} (h : HasW dss ks c B) (e : lookN ks (.inl (c : Int)) = none) : dropN ks (.inl (c : Int)) = ks := by
  unfold dropN
  rw [List.filter_eq_self]
  intro r m
  simpa using look_none e r m
theorem pf_push {n s : Nat} {R : PyData} {x : Lb} {r : Road} {A : Ob} {B : List Lb} {dss : List (List PyData)} {ks : List (Key × Nat)} {y12 : Option Sl} (w : HasW dss ks (x.c + 1) B) (hB : B.length ≤ 1000000) (e1 : r.one = x.p) (c1 : 1 ≤ r.cost) (c2 : x.c + r.cost ≤ 1100) :
    ∃ dss' ks', HasW dss' ks' (x.c + 1) (B ++ [⟨x.c + r.cost, x.t + r.time, r.other⟩]) ∧ l_pairs_from_1 [some (.val (.int n)), some (.val (R)), some (.val (.int s)), some (.loc 0), some (.loc 1), some (.val (.int (x.c : Nat))), some (.val (.int (x.t : Nat))), some (.val (.int (x.p : Nat))), some (.val (.int r.one)), some (.val (.int r.other)), some (.val (.int r.cost)), some (.val (.int r.time)), y12] [A, .dil dss ks] = .next [some (.val (.int n)), some (.val (R)), some (.val (.int s)), some (.loc 0), some (.loc 1), some (.val (.int (x.c : Nat))), some (.val (.int (x.t : Nat))), some (.val (.int (x.p : Nat))), some (.val (.int r.one)), some (.val (.int r.other)), some (.val (.int r.cost)), some (.val (.int r.time)), y12] [A, .dil dss' ks'] := by
  have hl := w.len
  have ei : (r.one : Int) = x.p := by omega
  have ek : (x.c : Int) + r.cost = ((x.c + r.cost : Nat) : Int) := by omega
  unfold l_pairs_from_1
  rw [v_sif]
  have et : (tV (cBin gEq (eVar 8) (eVar 7))) [some (.val (.int n)), some (.val (R)), some (.val (.int s)), some (.loc 0), some (.loc 1), some (.val (.int (x.c : Nat))), some (.val (.int (x.t : Nat))), some (.val (.int (x.p : Nat))), some (.val (.int r.one)), some (.val (.int r.other)), some (.val (.int r.cost)), some (.val (.int r.time)), y12] [A, .dil dss ks] = .ok true [A, .dil dss ks] := by simp [ei]
  rw [et, v_fl, if_pos rfl]
  have ea : ∀ o, aCons (eTup (aCons (cBin gAdd (eVar 6) (eVar 11)) (aCons (eVar 9) aNil))) aNil [some (.val (.int n)), some (.val (R)), some (.val (.int s)), some (.loc 0), some (.loc 1), some (.val (.int (x.c : Nat))), some (.val (.int (x.t : Nat))), some (.val (.int (x.p : Nat))), some (.val (.int r.one)), some (.val (.int r.other)), some (.val (.int r.cost)), some (.val (.int r.time)), y12] o = .ok [.val (tpD ⟨x.c + r.cost, x.t + r.time, r.other⟩)] o := fun o => by
    simp [line_s, tpD]
  cases q : lookN ks (.inl ((x.c + r.cost : Nat) : Int)) with
  | some i =>
    obtain ⟨w1, w2⟩ := w.old (x := ⟨x.c + r.cost, x.t + r.time, r.other⟩) q
    refine ⟨_, _, w2, ?_⟩
    have es := v_setOld (w := 0) (n := 1) (h := [A, .dil dss ks]) rfl q (by omega)
    have ha : (atLb B (x.c + r.cost)).length ≤ B.length := List.length_filter_le _ _
    refine v_expMt2 (d := .none) (s := .inn 1 i) (h1 := [A, .dil dss ks]) (ss := [.val (tpD ⟨x.c + r.cost, x.t + r.time, r.other⟩)]) (ds := (atLb B (x.c + r.cost)).map tpD) ?_ ?_ (ea _) ?_
    · simp only [v_tv, v_tno, v_tan, v_tor, v_tt, v_bin, v_un, v_cb, v_eIxI, v_var, v_k, List.getElem?_cons_zero, List.getElem?_cons_succ, v_slot, v_bind, v_ixIs, v_wipe, v_wipe0, List.set_cons_zero, List.set_cons_succ, v_lst, v_tup, v_acons, v_anil, v_valsN, v_valsC, Option.map_some, Option.bind_some, List.length_nil, List.length_cons, v_give, v_truth, v_comp, v_src, v_seqL, v_seqT, v_fl, v_sif, v_set, v_ret, v_exp, v_asg, v_asg2, v_putN, v_putT, v_putsC, v_putsN, v_par, v_par1, v_call, v_gI, v_fAdd, v_fSub, v_fLt, v_fLe, v_fGt, v_fGe, v_ix, v_ix1, v_itT, v_itL, v_itO, v_itI, v_liL, v_liO, v_liI, v_obL, v_at0, v_at1, v_at2, v_at3, v_atC, v_negI, v_if, v_not, v_notB, v_chain, v_chainO, v_len, v_tuple, v_list, v_eqI, v_neI, v_eSetL, v_dilS, v_dil1, v_bang, v_addI, ek, es]
    · rw [v_liI, v_inn1 rfl]
      exact w1
    · exact v_appD (n := 1) (i := i) (h := [A, .dil dss ks]) rfl w1 (by rw [List.length_map]; show (atLb B (x.c + r.cost)).length < _; omega)
  | none =>
    refine ⟨_, _, w.new (x := ⟨x.c + r.cost, x.t + r.time, r.other⟩) q (by show x.c + 1 ≤ x.c + r.cost; omega) c2, ?_⟩
    have es := v_setNew (w := 0) (n := 1) (h := [A, .dil dss ks]) rfl q (by omega) (by omega)
    refine v_expMt2 (d := .none) (s := .inn 1 dss.length) (h1 := [A, .dil (dss ++ [[]]) (ks ++ [(.inl ((x.c + r.cost : Nat) : Int), dss.length)])]) (ss := [.val (tpD ⟨x.c + r.cost, x.t + r.time, r.other⟩)]) (ds := []) ?_ ?_ (ea _) ?_
    · simp only [v_tv, v_tno, v_tan, v_tor, v_tt, v_bin, v_un, v_cb, v_eIxI, v_var, v_k, List.getElem?_cons_zero, List.getElem?_cons_succ, v_slot, v_bind, v_ixIs, v_wipe, v_wipe0, List.set_cons_zero, List.set_cons_succ, v_lst, v_tup, v_acons, v_anil, v_valsN, v_valsC, Option.map_some, Option.bind_some, List.length_nil, List.length_cons, v_give, v_truth, v_comp, v_src, v_seqL, v_seqT, v_fl, v_sif, v_set, v_ret, v_exp, v_asg, v_asg2, v_putN, v_putT, v_putsC, v_putsN, v_par, v_par1, v_call, v_gI, v_fAdd, v_fSub, v_fLt, v_fLe, v_fGt, v_fGe, v_ix, v_ix1, v_itT, v_itL, v_itO, v_itI, v_liL, v_liO, v_liI, v_obL, v_at0, v_at1, v_at2, v_at3, v_atC, v_negI, v_if, v_not, v_notB, v_chain, v_chainO, v_len, v_tuple, v_list, v_eqI, v_neI, v_eSetL, v_dilS, v_dil1, v_bang, v_addI, ek, es]
    · rw [v_liI, v_inn1 rfl]
      simp
    · exact v_appD (n := 1) (i := dss.length) (h := [A, .dil (dss ++ [[]]) (ks ++ [(.inl ((x.c + r.cost : Nat) : Int), dss.length)])]) (ds := []) rfl (by simp) (by simp)
theorem pf_for {n s : Nat} {R : PyData} {rs : List Road} {x : Lb} {A : Ob} {B : List Lb} {dss : List (List PyData)} {ks : List (Key × Nat)} {y8 y9 y10 y11 y12 : Option Sl} (hR : ∀ h, seq? (.val R) h = .ok (rs.map Road.d) h) (w : HasW dss ks (x.c + 1) B) (hl : B.length + rs.length ≤ 1000000) (hc : ∀ r ∈ rs, 1 ≤ r.cost ∧ x.c + r.cost ≤ 1100) :
    Nx (sFor (srcSeq (eVar 1)) (.tp [(.nm 8), (.nm 9), (.nm 10), (.nm 11)]) l_pairs_from_1 [some (.val (.int n)), some (.val (R)), some (.val (.int s)), some (.loc 0), some (.loc 1), some (.val (.int (x.c : Nat))), some (.val (.int (x.t : Nat))), some (.val (.int (x.p : Nat))), y8, y9, y10, y11, y12] [A, .dil dss ks]) fun e h => ∃ (dss' : List (List PyData)) (ks' : List (Key × Nat)) (y8 y9 y10 y11 y12 : Option Sl), HasW dss' ks' (x.c + 1) (B ++ pshB rs x) ∧ e = [some (.val (.int n)), some (.val (R)), some (.val (.int s)), some (.loc 0), some (.loc 1), some (.val (.int (x.c : Nat))), some (.val (.int (x.t : Nat))), some (.val (.int (x.p : Nat))), y8, y9, y10, y11, y12] ∧ h = [A, .dil dss' ks'] := by
  refine (Nx.forR (ds := rs.map Road.d) (h1 := [A, .dil dss ks]) (I := fun rest e h => ∃ (done todo : List Road) (dss' : List (List PyData)) (ks' : List (Key × Nat)) (y8 y9 y10 y11 y12 : Option Sl), rs = done ++ todo ∧ rest = todo.map Road.d ∧ HasW dss' ks' (x.c + 1) (B ++ pshB done x) ∧ e = [some (.val (.int n)), some (.val (R)), some (.val (.int s)), some (.loc 0), some (.loc 1), some (.val (.int (x.c : Nat))), some (.val (.int (x.t : Nat))), some (.val (.int (x.p : Nat))), y8, y9, y10, y11, y12] ∧ h = [A, .dil dss' ks']) (by simp [hR]) ⟨[], rs, dss, ks, _, _, _, _, _, rfl, rfl, by simpa [pshB] using w, rfl, rfl⟩ ?_).mono ?_
  · rintro d rest _ _ ⟨done, todo, dss, ks, y8, y9, y10, y11, y12, er, e, w, rfl, rfl⟩
    cases todo with
    | nil => cases e
    | cons r todo =>
      rw [List.map_cons, List.cons.injEq] at e
      obtain ⟨rfl, rfl⟩ := e
      have hlen : (pshB done x).length ≤ done.length := by unfold pshB; rw [List.length_map]; exact List.length_filter_le _ _
      have hr : rs.length = done.length + (todo.length + 1) := by rw [er]; simp
      obtain ⟨c1, c2⟩ := hc r (by rw [er]; simp)
      refine ⟨_, by simp [Road.d]; rfl, ?_⟩
      by_cases q : r.one = x.p
      · obtain ⟨dss', ks', w', e'⟩ := pf_push (n := n) (s := s) (R := R) (A := A) (y12 := y12) w (by rw [List.length_append]; omega) q c1 c2
        refine Nx.of e' ⟨done ++ [r], todo, dss', ks', _, _, _, _, _, by rw [er]; simp, rfl, ?_, rfl, rfl⟩
        have ep : pshB (done ++ [r]) x = pshB done x ++ [⟨x.c + r.cost, x.t + r.time, r.other⟩] := by simp [pshB, q]
        rw [ep, ← List.append_assoc]
        exact w'
      · have ep : pshB (done ++ [r]) x = pshB done x := by simp [pshB, q]
        have ei : ¬ (r.one : Int) = x.p := by omega
        refine Nx.of (e := [some (.val (.int n)), some (.val (R)), some (.val (.int s)), some (.loc 0), some (.loc 1), some (.val (.int (x.c : Nat))), some (.val (.int (x.t : Nat))), some (.val (.int (x.p : Nat))), some (.val (.int r.one)), some (.val (.int r.other)), some (.val (.int r.cost)), some (.val (.int r.time)), y12]) (h := [A, .dil dss ks]) (by unfold l_pairs_from_1; simp [ei]) ⟨done ++ [r], todo, dss, ks, _, _, _, _, _, by rw [er]; simp, rfl, by rw [ep]; exact w, rfl, rfl⟩
  · rintro _ _ ⟨done, todo, dss, ks, y8, y9, y10, y11, y12, er, e, w, rfl, rfl⟩
    cases todo with
    | cons r todo => cases e
    | nil =>
      rw [List.append_nil] at er
      rw [er]
      exact ⟨dss, ks, _, _, _, _, _, w, rfl, rfl⟩
theorem last_fall {l : List (Nat × Nat)} {t : Nat} (h : l.Pairwise fun a b => a.1 < b.1 ∧ b.2 < a.2) (y : Nat × Nat) (e : l.getLast? = some y) : (∀ z ∈ l, t < z.2) ↔ t < y.2 := by
  obtain ⟨ini, rfl⟩ : ∃ ini, l = ini ++ [y] := by
    obtain ⟨ini, q⟩ := List.getLast?_eq_some_iff.mp e
    exact ⟨ini, q⟩
  rw [List.pairwise_append] at h
  constructor
  · exact fun w => w y (by simp)
  · intro w z m
    rcases List.mem_append.mp m with m | m
    · have := h.2.2 z m y (by simp)
      omega
    · rw [List.mem_singleton.mp m]
      exact w
theorem at_last {ds : List PyData} {d : PyData} (e : ds.getLast? = some d) : atI ds (-1) = some d := by
  obtain ⟨ini, rfl⟩ := List.getLast?_eq_some_iff.mp e
  unfold atI ixN
  rw [if_neg (by decide)]
  have h1 : (0 : Int) ≤ -1 + ((ini ++ [d]).length : Nat) := by simp; omega
  rw [if_pos (by simp; omega)]
  have h2 : (-1 + ((ini ++ [d]).length : Nat) : Int).toNat = ini.length := by simp; omega
  simp
  rw [show ((-1 : Int) + ((ini.length : Int) + 1)).toNat = ini.length by omega]
  simp
theorem pf_turn {n s : Nat} {R : PyData} {rs : List Road} {F : Ff} {x : Lb} {xs B : List Lb} {dss : List (List PyData)} {ks : List (Key × Nat)} {y8 y9 y10 y11 y12 : Option Sl} (hn : NetOk n rs) (hR : ∀ h, seq? (.val R) h = .ok (rs.map Road.d) h) (i : Inv n F (x :: (xs ++ B))) (hm : mu n F (x :: (xs ++ B)) ≤ 310000) (w : HasW dss ks (x.c + 1) B) :
    Nx (l_pairs_from_2 [some (.val (.int n)), some (.val (R)), some (.val (.int s)), some (.loc 0), some (.loc 1), some (.val (.int (x.c : Nat))), some (.val (.int (x.t : Nat))), some (.val (.int (x.p : Nat))), y8, y9, y10, y11, y12] [.lls (ffL n F), .dil dss ks]) fun e h => ∃ (dss' : List (List PyData)) (ks' : List (Key × Nat)) (y8 y9 y10 y11 y12 : Option Sl), HasW dss' ks' (x.c + 1) (B ++ psh rs F x) ∧ e = [some (.val (.int n)), some (.val (R)), some (.val (.int s)), some (.loc 0), some (.loc 1), some (.val (.int (x.c : Nat))), some (.val (.int (x.t : Nat))), some (.val (.int (x.p : Nat))), y8, y9, y10, y11, y12] ∧ h = [.lls (ffL n (stF F x)), .dil dss' ks'] := by
  obtain ⟨hh, hp⟩ := i.hist x List.mem_cons_self
  have hl := hn.len
  have n2 := hn.n2
  have lo := hh.low
  have hBl : B.length ≤ 310000 := by
    unfold mu at hm
    simp at hm
    omega
  have hin := v_innAt (k := 0) (p := x.p) (h := [.lls (ffL n F), .dil dss ks]) (dss := ffL n F) rfl (by unfold ffL; rw [rowsL_len]; exact hp)
  have hget : inn? [.lls (ffL n F), .dil dss ks] 0 x.p = some ((F x.p).map ctD) := by
    rw [v_inn0 rfl]
    exact rowsL_get hp
  have hsh : shp (.list ((F x.p).map ctD)) = true := shp_listB lay_ct2 (by decide)
  have eq := v_eqNi hget hsh
  have etest : (tOr_ (tV (cBin gEq (eIxI (eVar 3) (eVar 7)) (eLst aNil))) (tV (cBin (gI fLt) (eVar 6) (cBin gIx (cBin gIx (eIxI (eVar 3) (eVar 7)) (cUn gNeg (eK (.int 1)))) (eK (.int 1)))))) [some (.val (.int n)), some (.val (R)), some (.val (.int s)), some (.loc 0), some (.loc 1), some (.val (.int (x.c : Nat))), some (.val (.int (x.t : Nat))), some (.val (.int (x.p : Nat))), y8, y9, y10, y11, y12] [.lls (ffL n F), .dil dss ks] = .ok (acc F x) [.lls (ffL n F), .dil dss ks] := by
    cases q : (F x.p).getLast? with
    | none =>
      have e0 : F x.p = [] := List.getLast?_eq_none_iff.mp q
      have ea : acc F x = true := by unfold acc; rw [e0]; rfl
      rw [e0] at eq
      simp [hin, line_s, eq, ea]
    | some y =>
      have ne : ((F x.p).map ctD).isEmpty = false := by
        cases z : F x.p with
        | nil => rw [z] at q; cases q
        | cons _ _ => rfl
      rw [ne] at eq
      have el : atI ((F x.p).map ctD) (-1) = some (ctD y) := at_last (by rw [List.getLast?_map, q]; rfl)
      have ea : acc F x = decide (x.t < y.2) := by
        rw [Bool.eq_iff_iff, decide_eq_true_iff, ← last_fall (i.ord x.p) y q]
        exact acc_iff i
      simp [hin, line_s, eq, hget, el, ctD, ea]
  unfold l_pairs_from_2
  by_cases ha : acc F x = true
  · rw [ha] at etest
    refine Nx.if_t etest ?_
    rw [psh_accB ha, show stF F x = addF F x by unfold stF; rw [if_pos ha]]
    refine Nx.seqEq (e1 := [some (.val (.int n)), some (.val (R)), some (.val (.int s)), some (.loc 0), some (.loc 1), some (.val (.int (x.c : Nat))), some (.val (.int (x.t : Nat))), some (.val (.int (x.p : Nat))), y8, y9, y10, y11, y12]) (h1 := [.lls (ffL n (addF F x)), .dil dss ks]) ?_ ?_
    · have ea := v_appI (n := 0) (i := x.p) (h := [.lls (ffL n F), .dil dss ks]) (d := ctD (x.c, x.t)) (ds := (F x.p).map ctD) (dss := ffL n F) rfl (rowsL_get hp) (by rw [List.length_map]; have := i.len x.p; omega)
      rw [ffL_setB hp] at ea
      exact v_expMt (s := .inn 0 x.p) (ss := [.val (ctD (x.c, x.t))]) (ds := (F x.p).map ctD) (by simp [hin]) hget (by simp [line_s, ctD]) ea
    exact pf_for hR w (by omega) fun r m => by
      have ok := hn.all r m
      have := ok.c1
      have := ok.c2
      omega
  · have ha' : acc F x = false := by simpa using ha
    rw [ha'] at etest
    refine Nx.if_f etest ?_
    have e2 : psh rs F x = [] := by unfold psh; rw [if_neg ha]
    rw [e2, List.append_nil, show stF F x = F by unfold stF; rw [if_neg ha]]
    exact ⟨_, _, rfl, dss, ks, _, _, _, _, _, w, rfl, rfl⟩
theorem pf_batch {n s c : Nat} {R : PyData} {rs : List Road} {G : Ff} {F : Ff} {xs B : List Lb} {dss : List (List PyData)} {ks : List (Key × Nat)} {src : En → Hs → Rz (List PyData)} {h0 : Hs} {y6 y7 y8 y9 y10 y11 y12 : Option Sl} (hn : NetOk n rs) (hR : ∀ h, seq? (.val R) h = .ok (rs.map Road.d) h) (es : src [some (.val (.int n)), some (.val (R)), some (.val (.int s)), some (.loc 0), some (.loc 1), some (.val (.int (c : Nat))), y6, y7, y8, y9, y10, y11, y12] h0 = .ok (xs.map tpD) [.lls (ffL n F), .dil dss ks]) (hx : ∀ x ∈ xs, x.c = c) (pw : xs.Pairwise fun a b => leT a b = true) (r : Run rs F (xs ++ B) G) (i : Inv n F (xs ++ B)) (hm : mu n F (xs ++ B) ≤ 310000) (hb : ∀ b ∈ B, c < b.c) (w : HasW dss ks (c + 1) B) :
    Nx (sFor src (.tp [(.nm 6), (.nm 7)]) l_pairs_from_2 [some (.val (.int n)), some (.val (R)), some (.val (.int s)), some (.loc 0), some (.loc 1), some (.val (.int (c : Nat))), y6, y7, y8, y9, y10, y11, y12] h0) fun e h => ∃ (F' : Ff) (B' : List Lb) (dss' : List (List PyData)) (ks' : List (Key × Nat)) (y6 y7 y8 y9 y10 y11 y12 : Option Sl), Run rs F' B' G ∧ Inv n F' B' ∧ mu n F' B' ≤ 310000 ∧ HasW dss' ks' (c + 1) B' ∧ e = [some (.val (.int n)), some (.val (R)), some (.val (.int s)), some (.loc 0), some (.loc 1), some (.val (.int (c : Nat))), y6, y7, y8, y9, y10, y11, y12] ∧ h = [.lls (ffL n F'), .dil dss' ks'] := by
  refine (Nx.forR (ds := xs.map tpD) (h1 := [.lls (ffL n F), .dil dss ks]) (I := fun rest e h => ∃ (todo : List Lb) (F' : Ff) (B' : List Lb) (dss' : List (List PyData)) (ks' : List (Key × Nat)) (y6 y7 y8 y9 y10 y11 y12 : Option Sl), rest = todo.map tpD ∧ (∀ x ∈ todo, x.c = c) ∧ todo.Pairwise (fun a b => leT a b = true) ∧ (∀ b ∈ B', c < b.c) ∧ Run rs F' (todo ++ B') G ∧ Inv n F' (todo ++ B') ∧ mu n F' (todo ++ B') ≤ 310000 ∧ HasW dss' ks' (c + 1) B' ∧ e = [some (.val (.int n)), some (.val (R)), some (.val (.int s)), some (.loc 0), some (.loc 1), some (.val (.int (c : Nat))), y6, y7, y8, y9, y10, y11, y12] ∧ h = [.lls (ffL n F'), .dil dss' ks']) es ⟨xs, F, B, dss, ks, _, _, _, _, _, _, _, rfl, hx, pw, hb, r, i, hm, w, rfl, rfl⟩ ?_).mono ?_
  · rintro d rest _ _ ⟨todo, F', B', dss', ks', y6, y7, y8, y9, y10, y11, y12, e, hx, pw, hb, r, i, hm, w, rfl, rfl⟩
    cases todo with
    | nil => cases e
    | cons x todo =>
      rw [List.map_cons, List.cons.injEq] at e
      obtain ⟨rfl, rfl⟩ := e
      have hc : x.c = c := hx x List.mem_cons_self
      subst hc
      rw [List.pairwise_cons] at pw
      have le : ∀ y ∈ todo ++ B', x.le y := fun y m => by
        unfold Lb.le
        rcases List.mem_append.mp m with m | m
        · have h1 := hx y (List.mem_cons_of_mem _ m)
          have h2 := pw.1 y m
          unfold leT at h2
          have h2 := of_decide_eq_true h2
          omega
        · have := hb y m
          omega
      refine ⟨_, by simp [tpD]; rfl, ?_⟩
      rw [List.cons_append] at r i hm
      obtain ⟨j, l⟩ := Inv.step hn i le
      refine (pf_turn (s := s) (R := R) hn hR i hm w).mono ?_
      rintro _ _ ⟨dss2, ks2, y8, y9, y10, y11, y12, w2, rfl, rfl⟩
      have ra := r.next le
      rw [List.append_assoc] at j ra l
      refine ⟨todo, _, _, dss2, ks2, _, _, _, _, _, _, _, rfl, fun y m => hx y (List.mem_cons_of_mem _ m), pw.2, fun b m => ?_, ra, j, ?_, w2, rfl, rfl⟩
      · rcases List.mem_append.mp m with m | m
        · exact hb b m
        · unfold psh at m
          split at m
          · obtain ⟨r, hr, rfl⟩ := List.mem_map.mp m
            have := (hn.all r (List.mem_filter.mp hr).1).c1
            show x.c < x.c + r.cost
            omega
          · cases m
      · omega
  · rintro _ _ ⟨todo, F', B', dss', ks', y6, y7, y8, y9, y10, y11, y12, e, hx, pw, hb, r, i, hm, w, rfl, rfl⟩
    cases todo with
    | cons x todo => cases e
    | nil => exact ⟨F', B', dss', ks', _, _, _, _, _, _, _, r, i, hm, w, rfl, rfl⟩
theorem pf_while {n s c : Nat} {R : PyData} {rs : List Road} {G : Ff} {F : Ff} {B : List Lb} {dss : List (List PyData)} {ks : List (Key × Nat)} {y6 y7 y8 y9 y10 y11 y12 : Option Sl} (hn : NetOk n rs) (hR : ∀ h, seq? (.val R) h = .ok (rs.map Road.d) h) (r : Run rs F B G) (i : Inv n F B) (hm : mu n F B ≤ 310000) (w : HasW dss ks c B) (hb : ∀ b ∈ B, c ≤ b.c) :
    Nx (l_pairs_from_3 [some (.val (.int n)), some (.val (R)), some (.val (.int s)), some (.loc 0), some (.loc 1), some (.val (.int (c : Nat))), y6, y7, y8, y9, y10, y11, y12] [.lls (ffL n F), .dil dss ks]) fun e h => ∃ (F' : Ff) (B' : List Lb) (dss' : List (List PyData)) (ks' : List (Key × Nat)) (y6 y7 y8 y9 y10 y11 y12 : Option Sl), Run rs F' B' G ∧ Inv n F' B' ∧ mu n F' B' ≤ 310000 ∧ HasW dss' ks' (c + 1) B' ∧ e = [some (.val (.int n)), some (.val (R)), some (.val (.int s)), some (.loc 0), some (.loc 1), some (.val (.int ((c + 1 : Nat) : Int))), y6, y7, y8, y9, y10, y11, y12] ∧ h = [.lls (ffL n F'), .dil dss' ks'] := by
  have pp : B.Perm ((atLb B c).mergeSort leT ++ B.filter fun x => !decide (x.c = c)) := ((List.mergeSort_perm (atLb B c) leT).append_right _ |>.trans (List.filter_append_perm (fun x : Lb => decide (x.c = c)) B)).symm
  have i2 := i.perm pp
  have r2 := r.perm pp.symm
  have hm2 : mu n F ((atLb B c).mergeSort leT ++ B.filter fun x => !decide (x.c = c)) ≤ 310000 := by rw [← mu_perm pp]; exact hm
  have hBl : B.length ≤ 310000 := by unfold mu at hm; omega
  have hal : (atLb B c).length ≤ B.length := List.length_filter_le _ _
  have es : srcSeq (cCB gSorted (aCons (ePopL (eVar 4) (eVar 5)) aNil)) [some (.val (.int n)), some (.val (R)), some (.val (.int s)), some (.loc 0), some (.loc 1), some (.val (.int (c : Nat))), y6, y7, y8, y9, y10, y11, y12] [.lls (ffL n F), .dil dss ks] = .ok (((atLb B c).mergeSort leT).map tpD) [.lls (ffL n F), .dil dss (dropN ks (.inl (c : Int)))] := by
    rcases w.at_ c with ⟨j, e1, e2⟩ | ⟨e1, e2⟩
    · have ep := v_popOld (n := 1) (h := [.lls (ffL n F), .dil dss ks]) rfl e1
      have hg : gSorted [.inn 1 j] [.lls (ffL n F), .dil dss (dropN ks (.inl (c : Int)))] = some (.list (((atLb B c).mergeSort leT).map tpD)) := by
        unfold gSorted
        dsimp only
        rw [v_liI, v_inn1 rfl, e2]
        dsimp only
        rw [if_pos (sort_tpB _ (by omega)), srt_tp]
      simp [ep, hg]
    · have ep := v_popNone (n := 1) (h := [.lls (ffL n F), .dil dss ks]) rfl e1
      have hg : gSorted [.val (.list [])] [.lls (ffL n F), .dil dss ks] = some (.list []) := by
        unfold gSorted
        dsimp only [v_liL, litems]
        rw [if_pos (by decide)]
        simp [srtD]
      rw [w.drop e1, e2]
      simp [ep, hg]
  unfold l_pairs_from_3
  refine Nx.seq (pf_batch (n := n) (s := s) (c := c) (R := R) hn hR es (fun x m => by
    have := (List.mergeSort_perm (atLb B c) leT).mem_iff.mp m
    simpa using (List.mem_filter.mp this).2) (srt_pw _) r2 i2 hm2 (fun b m => by
    obtain ⟨m1, m2⟩ := List.mem_filter.mp m
    have := hb b m1
    have : b.c ≠ c := by simpa using m2
    omega) w.pop) ?_
  rintro _ _ ⟨F', B', dss', ks', y6, y7, y8, y9, y10, y11, y12, r', i', hm', w', rfl, rfl⟩
  have ec : ((c + 1 : Nat) : Int) = (c : Int) + 1 := by omega
  refine Nx.of (e := [some (.val (.int n)), some (.val (R)), some (.val (.int s)), some (.loc 0), some (.loc 1), some (.val (.int ((c + 1 : Nat) : Int))), y6, y7, y8, y9, y10, y11, y12]) (h := [.lls (ffL n F'), .dil dss' ks']) ?_ ⟨F', B', dss', ks', _, _, _, _, _, _, _, r', i', hm', w', rfl, rfl⟩
  rw [ec]
  rfl
theorem fence_outB {n : Nat} {F : Ff} {tg : Nat} {env : En} {h : Hs} {E : Nat → En} (hn : n ≤ 1000) (hE : ∀ z : Nat, Tg.put (.nm tg) (.list ((F z).map ctD)) env = some (E z)) (hf : ∀ z : Nat, (cCB gTuple (aCons (eVar tg) aNil)) (E z) h = .ok (.val (.tuple ((F z).map ctD))) h) :
    compL (.nm tg) tTrue (cCB gTuple (aCons (eVar tg) aNil)) env ((ffL n F).map .list) [] h = .ok ((List.range n).map fun p => .tuple ((F p).map ctD)) h := by
  have := comp_map (tg := .nm tg) (c := tTrue) (f := cCB gTuple (aCons (eVar tg) aNil)) (env := env) (h := h) (E := E) (dd := fun p : Nat => PyData.list ((F p).map ctD)) (w := fun p : Nat => PyData.tuple ((F p).map ctD)) hE (fun z => by simp) (List.range n) [] (fun z _ => hf z) (by simp; omega)
  rw [show (ffL n F).map PyData.list = (List.range n).map fun p : Nat => PyData.list ((F p).map ctD) by unfold ffL rowsL; rw [List.map_map]; rfl]
  simpa using this
theorem e_pairsFrom {n s : Nat} {R : PyData} {rs : List Road} {G : Ff} (hn : NetOk n rs) (hs : s < n) (hR : ∀ h, seq? (.val R) h = .ok (rs.map Road.d) h) (r : Run rs Fe [⟨0, 0, s⟩] G) : m_pairs_from [.int n, R, .int s] [] = .ok (fenceD n G) [] := by
  have h2 := hn.n2
  unfold m_pairs_from
  refine run_eq ?_
  have e0 : mkEnv [false, false, false] [.int n, R, .int s] 0 ++ List.replicate 10 none = [some (.val (.int n)), some (.val (R)), some (.val (.int s)), none, none, none, none, none, none, none, none, none, none] := rfl
  rw [e0]
  unfold b_pairs_from
  apply Out.seqEq (e1 := [some (.val (.int n)), some (.val (R)), some (.val (.int s)), some (.loc 0), none, none, none, none, none, none, none, none, none]) (h1 := [.lls (ffL n Fe)])
  · have ec := v_compE (src := srcRng1 (aCons (eVar 0) aNil)) (env := [some (.val (.int n)), some (.val (R)), some (.val (.int s)), none, none, none, none, none, none, none, none, none, none]) (h := []) (h1 := []) (ds := upTo 0 n) (by simp; rw [v_rng1 (by omega) (by omega)]; simp) (by simp [upTo]; omega)
    have er : List.replicate (upTo 0 n).length ([] : List PyData) = ffL n Fe := by
      rw [show (upTo 0 n).length = n by simp [upTo], rowsL_rep]
      rfl
    rw [er] at ec
    simp only [v_set, ec]
    rfl
  have w0 : HasW [[.tuple [.int 0, .int s]]] [(.inl 0, 0)] 0 [⟨0, 0, s⟩] := by
    refine ⟨fun k => ?_, fun k k' i q1 q2 => ?_, fun r m => ?_, by simp⟩
    · by_cases e : k = 0
      · subst e
        exact .inl ⟨0, by simp [lookN], by simp [atLb, tpD]⟩
      · have e1 : ¬ (0 : Int) = k := by omega
        have e2 : ¬ 0 = k := by omega
        exact .inr ⟨by simp [lookN, e1], by simp [atLb, e2]⟩
    · have h1 := look_memK q1
      have h2 := look_memK q2
      simp at h1 h2
      rw [h1.1, h2.1]
    · rw [List.mem_singleton.mp m]
      exact ⟨0, rfl, Nat.le_refl _, by decide⟩
  apply Out.seqEq (e1 := [some (.val (.int n)), some (.val (R)), some (.val (.int s)), some (.loc 0), some (.loc 1), some (.val (.int ((0 : Nat) : Int))), none, none, none, none, none, none, none]) (h1 := [.lls (ffL n Fe), .dil [[.tuple [.int 0, .int s]]] [(.inl 0, 0)]])
  · have ed := v_dilN (k := 0) (c := 0) (i := 2) (j := (s : Int)) (env := [some (.val (.int n)), some (.val (R)), some (.val (.int s)), some (.loc 0), none, none, none, none, none, none, none, none, none]) (h := [.lls (ffL n Fe)]) rfl
    simp only [v_par, v_acons, ed, v_bind]
    rfl
  refine Out.seq (A := fun e h => ∃ (dss : List (List PyData)) (ks : List (Key × Nat)) (y5 y6 y7 y8 y9 y10 y11 y12 : Option Sl), e = [some (.val (.int n)), some (.val (R)), some (.val (.int s)), some (.loc 0), some (.loc 1), y5, y6, y7, y8, y9, y10, y11, y12] ∧ h = [.lls (ffL n G), .dil dss ks]) ?_ ?_
  · refine Out.while_ 1101 (by omega) (I := fun m e h => ∃ (c : Nat) (F : Ff) (B : List Lb) (dss : List (List PyData)) (ks : List (Key × Nat)) (y6 y7 y8 y9 y10 y11 y12 : Option Sl), m = 1101 - c ∧ Inv n F B ∧ Run rs F B G ∧ mu n F B ≤ 310000 ∧ HasW dss ks c B ∧ (∀ b ∈ B, c ≤ b.c) ∧ e = [some (.val (.int n)), some (.val (R)), some (.val (.int s)), some (.loc 0), some (.loc 1), some (.val (.int (c : Nat))), y6, y7, y8, y9, y10, y11, y12] ∧ h = [.lls (ffL n F), .dil dss ks]) ⟨0, Fe, _, _, _, _, _, _, _, _, _, _, rfl, inv0 hs, r, mu0 h2, w0, fun _ _ => Nat.zero_le _, rfl, rfl⟩ ?_
    rintro m _ _ ⟨c, F, B, dss, ks, y6, y7, y8, y9, y10, y11, y12, rfl, i, r, hm, w, hb, rfl, rfl⟩
    have ne := v_neD (n := 1) (h := [.lls (ffL n F), .dil dss ks]) (dss := dss) (ks := ks) rfl
    cases ks with
    | nil =>
      refine .inl ⟨by simp at ne ⊢; simp [ne], dss, [], _, _, _, _, _, _, _, _, rfl, ?_⟩
      have : B = [] := by
        cases B with
        | nil => rfl
        | cons b B =>
          rcases w.at_ b.c with ⟨j, e1, _⟩ | ⟨_, e2⟩
          · cases e1
          · simp [atLb] at e2
      subst this
      rw [r.nil]
    | cons k ks =>
      refine .inr ⟨by simp at ne ⊢; simp [ne], ?_⟩
      obtain ⟨q, _, l1, l2⟩ := w.key k List.mem_cons_self
      refine ⟨1101 - (c + 1), by omega, Out.of_nx ((pf_while (s := s) (R := R) hn hR r i hm w hb).mono ?_)⟩
      rintro _ _ ⟨F', B', dss', ks', y6, y7, y8, y9, y10, y11, y12, r', i', hm', w', rfl, rfl⟩
      refine ⟨c + 1, F', B', dss', ks', _, _, _, _, _, _, _, rfl, i', r', hm', w', fun b m => ?_, rfl, rfl⟩
      rcases w'.at_ b.c with ⟨j, e1, _⟩ | ⟨_, e2⟩
      · obtain ⟨q, e3, l1, _⟩ := w'.key _ (look_memK e1)
        have := keyI e3
        omega
      · have : b ∈ atLb B' b.c := List.mem_filter.mpr ⟨m, decide_eq_true rfl⟩
        rw [e2] at this
        cases this
  · rintro _ _ ⟨dss, ks, y5, y6, y7, y8, y9, y10, y11, y12, rfl, rfl⟩
    refine Out.ret (s := .val (fenceD n G)) (h := [.gone, .dil dss ks]) ?_ (by rw [v_outV]; rfl)
    obtain ⟨e', ef, y5, y6, y7, y8, y9, y10, y11, y12, rfl⟩ : ∃ e' : En, frz? 0 3 [some (.val (.int n)), some (.val (R)), some (.val (.int s)), some (.loc 0), some (.loc 1), y5, y6, y7, y8, y9, y10, y11, y12] [.lls (ffL n G), .dil dss ks] = some (e', [.gone, .dil dss ks]) ∧ ∃ y5 y6 y7 y8 y9 y10 y11 y12 : Option Sl, e' = [some (.val (.int n)), some (.val (R)), some (.val (.int s)), some (.val (.list ((ffL n G).map .list))), some (.loc 1), y5, y6, y7, y8, y9, y10, y11, y12] := ⟨_, rfl, _, _, _, _, _, _, _, _, rfl⟩
    unfold sFrz
    rw [ef]
    dsimp only
    have eo := fence_outB (n := n) (F := G) (tg := 12) (env := [some (.val (.int n)), some (.val (R)), some (.val (.int s)), some (.val (.list ((ffL n G).map .list))), some (.loc 1), y5, y6, y7, y8, y9, y10, y11, none]) (h := [.gone, .dil dss ks]) (E := fun p => [some (.val (.int n)), some (.val (R)), some (.val (.int s)), some (.val (.list ((ffL n G).map .list))), some (.loc 1), y5, y6, y7, y8, y9, y10, y11, some (.val (.list ((G p).map ctD)))]) (by omega) (fun z => by simp) (fun z => by simp)
    simp only [v_ret, v_cb, v_acons, v_anil, v_comp, v_src, v_var, List.getElem?_cons_zero, List.getElem?_cons_succ, v_slot, v_bind, v_seqL, v_wipe0, v_wipe, List.set_cons_zero, List.set_cons_succ, eo]
    rfl
end FL
namespace FL
open PySem PySem.Spec PyProof.Rows L2 PySem.W
theorem rk_int10 {i : Nat} (h : i < 1024) : Rk 11 0 (.int (i : Nat)) := by
  have q : (i : Int).natAbs.log2 < 10 := by
    rw [Int.natAbs_natCast]
    by_cases z : i = 0
    · rw [z]; decide
    · exact (Nat.log2_lt z).mpr (by omega)
  refine ⟨by rfl, by simp [PyData.depth], by simp [PyData.showable]; rw [Int.natAbs_natCast] at q; omega, ?_⟩
  have := int_text_length_le (by decide) q
  have e : (PyData.shown (.int (i : Int))).length = (toString (i : Int)).length := by
    show (Str.ofString (toString (i : Int))).length = _
    exact PySem.ofString_length _
  rw [e]; exact this
end FL
namespace FL
open PySem PySem.Spec PyProof.Rows L2
theorem outs_rng {rs : List Road} {p : Nat} : ∀ (t pre : List Road), rs = pre ++ t → outsF p pre.length t = (List.range' pre.length t.length).filter fun k => decide ((rdK rs k).one = p)
  | [], pre, _ => by simp [outsF]
  | r :: t, pre, h => by
    have e : rs[pre.length]? = some r := by rw [h, List.getElem?_append_right (Nat.le_refl _), Nat.sub_self]; rfl
    have ih := outs_rng (rs := rs) (p := p) t (pre ++ [r]) (by rw [h, List.append_assoc]; rfl)
    rw [List.length_append, List.length_singleton] at ih
    show (if r.one = p then pre.length :: outsF p (pre.length + 1) t else outsF p (pre.length + 1) t) = (List.range' pre.length (t.length + 1)).filter _
    rw [List.range'_succ, List.filter_cons, ih, rdK_of e]
    by_cases q : r.one = p <;> simp [q]
def goC (rs : List Road) (G : Ff) (c t k : Nat) : Bool := decide ((rdK rs k).cost ≤ c ∧ (rdK rs k).time ≤ t ∧ (c - (rdK rs k).cost, t - (rdK rs k).time) ∈ G (rdK rs k).other)
theorem go_outs {rs : List Road} {G : Ff} {p c t : Nat} : (outs rs p).filter (goC rs G c t) = goL2 rs G p c t := by
  unfold outs goL2
  have := outs_rng (rs := rs) (p := p) rs [] rfl
  rw [List.length_nil] at this
  rw [this, List.range_eq_range', List.filter_filter]
  refine List.filter_congr fun k _ => ?_
  unfold goB goC
  rw [Bool.and_comm]
theorem any_ct (a b : Int) : ∀ l : List (Nat × Nat), ((l.map ctD).any fun z => PyData.eqv z (.tuple [.int a, .int b])) = l.any fun y => decide ((y.1 : Int) = a) && decide ((y.2 : Int) = b)
  | [] => rfl
  | y :: l => by
    rw [List.map_cons, List.any_cons, List.any_cons, any_ct a b l]
    congr 1
    rw [Bool.eq_iff_iff]
    simp [ctD, PyData.eqv, PyData.eqvAll]
theorem v_inCt {a b : Int} {l : List (Nat × Nat)} {h : Hs} : gIn (.val (.tuple [.int a, .int b])) (.val (.tuple (l.map ctD))) h = some (.bool (l.any fun y => decide ((y.1 : Int) = a) && decide ((y.2 : Int) = b))) := by
  have e1 : shp (.tuple [.int a, .int b]) = true := by simp [shp, SeqAt.shaped, PyData.canLay0, PyData.canLayAll0, PyData.depth, PyData.depthAll]
  have e2 : shp (.list (l.map ctD)) = true := shp_listB (k := 1) lay_ct2 (by decide)
  show (if shp (.tuple [.int a, .int b]) && shp (.list (l.map ctD)) then some (PyData.bool ((l.map ctD).any fun z => PyData.eqv z (.tuple [.int a, .int b]))) else none) = _
  rw [e1, e2, any_ct]
  rfl
theorem in_go {rs : List Road} {G : Ff} {c t k : Nat} : ((G (rdK rs k).other).any fun y => decide ((y.1 : Int) = (c : Int) - (rdK rs k).cost) && decide ((y.2 : Int) = (t : Int) - (rdK rs k).time)) = goC rs G c t k := by
  rw [Bool.eq_iff_iff, List.any_eq_true]
  unfold goC
  rw [decide_eq_true_eq]
  constructor
  · rintro ⟨y, m, h⟩
    rw [Bool.and_eq_true, decide_eq_true_eq, decide_eq_true_eq] at h
    refine ⟨by omega, by omega, ?_⟩
    rw [show (c - (rdK rs k).cost, t - (rdK rs k).time) = y from Prod.ext (by show c - _ = y.1; omega) (by show t - _ = y.2; omega)]
    exact m
  · rintro ⟨h1, h2, m⟩
    refine ⟨_, m, ?_⟩
    rw [Bool.and_eq_true, decide_eq_true_eq, decide_eq_true_eq]
    dsimp only
    exact ⟨by omega, by omega⟩
def frD (n : Nat) (G : Ff) : List PyData := (List.range n).map fun p => .tuple ((G p).map ctD)
theorem fr_at {n p : Nat} {G : Ff} (h : p < n) : (frD n G)[p]? = some (.tuple ((G p).map ctD)) := by
  unfold frD
  rw [List.getElem?_map, List.getElem?_range h]
  rfl
theorem e_turned {rs : List Road} (hl : rs.length ≤ 100000) : m_turned_about [.tuple (rs.map Road.d)] [] = .ok (.list ((abtR rs).map Road.d)) [] := by
  have key := comp_map (tg := .tp [.nm 1, .nm 2, .nm 3, .nm 4]) (c := tTrue) (f := (eTup (aCons (eVar 2) (aCons (eVar 1) (aCons (eVar 3) (aCons (eVar 4) aNil)))))) (env := [some (.val (.tuple (rs.map Road.d))), none, none, none, none]) (h := []) (E := fun r : Road => [some (.val (.tuple (rs.map Road.d))), some (.val (.int (r.one : Nat))), some (.val (.int (r.other : Nat))), some (.val (.int (r.cost : Nat))), some (.val (.int (r.time : Nat)))]) (dd := Road.d) (w := fun r => r.abt.d) (fun r => by simp [Road.d]) (fun r => by simp) rs [] (fun r _ => by simp [Road.d, Road.abt, line_s]) (by simp; omega)
  rw [List.nil_append] at key
  have e : (abtR rs).map Road.d = rs.map fun r => r.abt.d := by unfold abtR; rw [List.map_map]; rfl
  unfold m_turned_about b_turned_about
  rw [e]
  simp [key]
theorem ww_good {n p c t k : Nat} {rs : List Road} {G : Ff} {X2 X3 : PyData} {V : List PyData} {U : List Nat} {y11 y12 y13 y14 : Option Sl} (hn : NetOk n rs) (hk : k < rs.length) (hl : U.length ≤ 1000) :
    Nx (l_way_with_1 [some (.val (netD n rs)), some (.val (.tuple (frD n G))), some (.val X2), some (.val X3), some (.val (.int (p : Nat))), some (.val (.int (c : Nat))), some (.val (.int (t : Nat))), some (.loc 0), some (.val (.list (aheadD n rs))), some (.loc 1), some (.val (.int (k : Nat))), y11, y12, y13, y14] [.lst V, .lst (natsD U)]) fun e h => ∃ y11 y12 y13 y14 : Option Sl, e = [some (.val (netD n rs)), some (.val (.tuple (frD n G))), some (.val X2), some (.val X3), some (.val (.int (p : Nat))), some (.val (.int (c : Nat))), some (.val (.int (t : Nat))), some (.loc 0), some (.val (.list (aheadD n rs))), some (.loc 1), some (.val (.int (k : Nat))), y11, y12, y13, y14] ∧ h = [.lst V, .lst (natsD (U ++ if goC rs G c t k = true then [k] else []))] := by
  have e : rs[k]? = some rs[k] := List.getElem?_eq_getElem hk
  have ok := hn.all _ (List.mem_of_getElem? e)
  have er := rdK_of e
  have ix : ∀ h : Hs, items (.val (netD n rs)) h = some [.int n, .tuple (rs.map Road.d)] := fun h => rfl
  have em := map_getR e
  have ef := fr_at (G := G) ok.other
  have ei := v_inCt (a := (c : Int) - rs[k].cost) (b := (t : Int) - rs[k].time) (l := G rs[k].other) (h := [.lst V, .lst (natsD U)])
  have eg := in_go (rs := rs) (G := G) (c := c) (t := t) (k := k)
  rw [er] at eg
  rw [eg] at ei
  generalize rs[k] = r at *
  unfold l_way_with_1
  refine Nx.of (e := [some (.val (netD n rs)), some (.val (.tuple (frD n G))), some (.val X2), some (.val X3), some (.val (.int (p : Nat))), some (.val (.int (c : Nat))), some (.val (.int (t : Nat))), some (.loc 0), some (.val (.list (aheadD n rs))), some (.loc 1), some (.val (.int (k : Nat))), some (.val (.int (r.one : Nat))), some (.val (.int (r.other : Nat))), some (.val (.int (r.cost : Nat))), some (.val (.int (r.time : Nat)))]) (h := [.lst V, .lst (natsD (U ++ if goC rs G c t k = true then [k] else []))]) ?_ ⟨_, _, _, _, rfl, rfl⟩
  cases q : goC rs G c t k with
  | false =>
    rw [q] at ei
    simp [ix, em, Road.d, ef, ei, line_s]
  | true =>
    rw [q] at ei
    have hU : (natsD U).length < 16777216 := by simp [natsD]; omega
    simp [ix, em, Road.d, ef, ei, line_s, hU, natsD_snoc]
theorem ww_for {n p c t : Nat} {rs : List Road} {G : Ff} {X2 X3 : PyData} {V : List PyData} {y10 y11 y12 y13 y14 : Option Sl} (hn : NetOk n rs) (hp : p < n) :
    Nx (sFor (srcSeq (cBin gIx (eVar 8) (eVar 4))) (.nm 10) l_way_with_1 [some (.val (netD n rs)), some (.val (.tuple (frD n G))), some (.val X2), some (.val X3), some (.val (.int (p : Nat))), some (.val (.int (c : Nat))), some (.val (.int (t : Nat))), some (.loc 0), some (.val (.list (aheadD n rs))), some (.loc 1), y10, y11, y12, y13, y14] [.lst V, .lst []]) fun e h => ∃ y10 y11 y12 y13 y14 : Option Sl, e = [some (.val (netD n rs)), some (.val (.tuple (frD n G))), some (.val X2), some (.val X3), some (.val (.int (p : Nat))), some (.val (.int (c : Nat))), some (.val (.int (t : Nat))), some (.loc 0), some (.val (.list (aheadD n rs))), some (.loc 1), y10, y11, y12, y13, y14] ∧ h = [.lst V, .lst (natsD (goL2 rs G p c t))] := by
  have h30 := hn.len
  have ea := aheadD_get (rs := rs) hp
  have ol := outsF_len (p := p) rs 0
  refine (Nx.forR (ds := natsD (outs rs p)) (h1 := [.lst V, .lst []]) (I := fun rest e h => ∃ (done todo : List Nat) (y10 y11 y12 y13 y14 : Option Sl), outs rs p = done ++ todo ∧ rest = natsD todo ∧ e = [some (.val (netD n rs)), some (.val (.tuple (frD n G))), some (.val X2), some (.val X3), some (.val (.int (p : Nat))), some (.val (.int (c : Nat))), some (.val (.int (t : Nat))), some (.loc 0), some (.val (.list (aheadD n rs))), some (.loc 1), y10, y11, y12, y13, y14] ∧ h = [.lst V, .lst (natsD (done.filter (goC rs G c t)))]) (by simp [ea]) ⟨[], outs rs p, _, _, _, _, _, rfl, rfl, rfl, rfl⟩ ?_).mono ?_
  · rintro d rest _ _ ⟨done, todo, y10, y11, y12, y13, y14, e1, e2, rfl, rfl⟩
    cases todo with
    | nil => cases e2
    | cons k todo =>
      have e2' : d :: rest = .int (k : Nat) :: natsD todo := e2
      cases e2'
      have mk_ : k ∈ outs rs p := by rw [e1]; simp
      have hk := pick_lt k mk_
      have hl : (done.filter (goC rs G c t)).length ≤ 1000 := by
        have h1 := List.length_filter_le (goC rs G c t) done
        have h2 := congrArg List.length e1
        rw [List.length_append] at h2
        unfold outs at h2
        omega
      refine ⟨_, by simp; rfl, ?_⟩
      refine (ww_good (p := p) (V := V) hn hk hl).mono ?_
      rintro _ _ ⟨y11, y12, y13, y14, rfl, rfl⟩
      refine ⟨done ++ [k], todo, _, _, _, _, _, by rw [e1, List.append_assoc]; rfl, rfl, rfl, ?_⟩
      rw [List.filter_append]
      have : [k].filter (goC rs G c t) = if goC rs G c t k = true then [k] else [] := by
        rw [List.filter_cons, List.filter_nil]
      rw [this]
      rfl
  · rintro _ _ ⟨done, todo, y10, y11, y12, y13, y14, e1, e2, rfl, rfl⟩
    cases todo with
    | cons k todo => cases e2
    | nil =>
      rw [List.append_nil] at e1
      refine ⟨_, _, _, _, _, rfl, ?_⟩
      rw [← e1, go_outs]
theorem ww_turn {n p c t k : Nat} {rs : List Road} {G : Ff} {X2 X3 : PyData} {V ks : List Nat} {y9 y10 y11 y12 y13 y14 : Option Sl} (hn : NetOk n rs) (hp : p < n) (hV : V.length ≤ 100000) (eg : goL2 rs G p c t = k :: ks) (l1 : (rdK rs k).cost ≤ c) (l2 : (rdK rs k).time ≤ t) :
    Nx (l_way_with_2 [some (.val (netD n rs)), some (.val (.tuple (frD n G))), some (.val X2), some (.val X3), some (.val (.int (p : Nat))), some (.val (.int (c : Nat))), some (.val (.int (t : Nat))), some (.loc 0), some (.val (.list (aheadD n rs))), y9, y10, y11, y12, y13, y14] [.lst (natsD V)]) fun e h => ∃ y10 y11 y12 y13 y14 : Option Sl, ∃ U, e = [some (.val (netD n rs)), some (.val (.tuple (frD n G))), some (.val X2), some (.val X3), some (.val (.int ((rdK rs k).other : Nat))), some (.val (.int ((c - (rdK rs k).cost : Nat) : Int))), some (.val (.int ((t - (rdK rs k).time : Nat) : Int))), some (.loc 0), some (.val (.list (aheadD n rs))), some (.loc 1), y10, y11, y12, y13, y14] ∧ h = [.lst (natsD (V ++ [k])), U] := by
  obtain ⟨r, e, o, _⟩ := go_mem2.mp (show k ∈ goL2 rs G p c t by rw [eg]; exact List.mem_cons_self)
  have er := rdK_of e
  rw [er] at l1 l2 ⊢
  have ix : ∀ h : Hs, items (.val (netD n rs)) h = some [.int n, .tuple (rs.map Road.d)] := fun h => rfl
  have em := map_getR e
  have hU : (natsD V).length < 16777216 := by simp [natsD]; omega
  have c1 : (c : Int) - r.cost = ((c - r.cost : Nat) : Int) := by omega
  have c2 : (t : Int) - r.time = ((t - r.time : Nat) : Int) := by omega
  unfold l_way_with_2
  refine Nx.seqEq (e1 := [some (.val (netD n rs)), some (.val (.tuple (frD n G))), some (.val X2), some (.val X3), some (.val (.int (p : Nat))), some (.val (.int (c : Nat))), some (.val (.int (t : Nat))), some (.loc 0), some (.val (.list (aheadD n rs))), some (.loc 1), y10, y11, y12, y13, y14]) (h1 := [.lst (natsD V), .lst []]) (by simp [v_new1]) ?_
  refine Nx.seq (ww_for hn hp) ?_
  rintro _ _ ⟨y10, y11, y12, y13, y14, rfl, rfl⟩
  rw [eg]
  have eh : natsD (k :: ks) = .int (k : Nat) :: natsD ks := rfl
  rw [eh]
  refine Nx.of (e := [some (.val (netD n rs)), some (.val (.tuple (frD n G))), some (.val X2), some (.val X3), some (.val (.int (r.other : Nat))), some (.val (.int ((c - r.cost : Nat) : Int))), some (.val (.int ((t - r.time : Nat) : Int))), some (.loc 0), some (.val (.list (aheadD n rs))), some (.loc 1), y10, some (.val (.int (r.one : Nat))), y12, some (.val (.int (r.cost : Nat))), some (.val (.int (r.time : Nat)))]) (h := [.lst (natsD (V ++ [k])), .lst (.int (k : Nat) :: natsD ks)]) ?_ ⟨_, _, _, _, _, _, rfl, rfl⟩
  simp [ix, em, Road.d, line_s, hU, natsD_snoc, c1, c2]
theorem e_wayWith {n s c t : Nat} {rs : List Road} {G : Ff} {v : List Nat} (hn : NetOk n rs) (hs : s < n) (hc : c ≤ 100000) (ww : Ww rs G s c t v) : m_way_with [netD n rs, .tuple (frD n G), .int (s : Nat), ctD (c, t)] [] = .ok (.tuple (natsD v)) [] := by
  have er := e_roadsFrom hn
  refine run_eq ?_
  have e0 : mkEnv [false, false, false, false] [netD n rs, .tuple (frD n G), .int (s : Nat), ctD (c, t)] 0 ++ List.replicate 11 none = [some (.val (netD n rs)), some (.val (.tuple (frD n G))), some (.val (.int (s : Nat))), some (.val (ctD (c, t))), none, none, none, none, none, none, none, none, none, none, none] := rfl
  rw [e0]
  unfold b_way_with
  refine Out.seqEq (e1 := [some (.val (netD n rs)), some (.val (.tuple (frD n G))), some (.val (.int (s : Nat))), some (.val (ctD (c, t))), some (.val (.int (s : Nat))), some (.val (.int (c : Nat))), some (.val (.int (t : Nat))), some (.loc 0), none, none, none, none, none, none, none]) (h1 := [.lst []]) ?_ ?_
  · simp [v_new1]
    rw [parT_of (e := [some (.val (netD n rs)), some (.val (.tuple (frD n G))), some (.val (.int (s : Nat))), some (.val (ctD (c, t))), some (.val (.int (s : Nat))), some (.val (.int (c : Nat))), some (.val (.int (t : Nat))), some (.loc 0), none, none, none, none, none, none, none]) rfl (by simp)]
  refine Out.seqEq (e1 := [some (.val (netD n rs)), some (.val (.tuple (frD n G))), some (.val (.int (s : Nat))), some (.val (ctD (c, t))), some (.val (.int (s : Nat))), some (.val (.int (c : Nat))), some (.val (.int (t : Nat))), some (.loc 0), some (.val (.list (aheadD n rs))), none, none, none, none, none, none]) (h1 := [.lst []]) (by simp [er]) ?_
  refine Out.seq (A := fun e h => ∃ (x4 x5 x6 y9 y10 y11 y12 y13 y14 : Option Sl), e = [some (.val (netD n rs)), some (.val (.tuple (frD n G))), some (.val (.int (s : Nat))), some (.val (ctD (c, t))), x4, x5, x6, some (.loc 0), some (.val (.list (aheadD n rs))), y9, y10, y11, y12, y13, y14] ∧ h = [.lst (natsD v)]) ?_ ?_
  · refine Out.while_ c (by omega) (I := fun m e h => ∃ (p c' t' : Nat) (V u : List Nat) (y9 y10 y11 y12 y13 y14 : Option Sl), c' ≤ m ∧ p < n ∧ v = V ++ u ∧ V.length + c' ≤ c ∧ Ww rs G p c' t' u ∧ e = [some (.val (netD n rs)), some (.val (.tuple (frD n G))), some (.val (.int (s : Nat))), some (.val (ctD (c, t))), some (.val (.int (p : Nat))), some (.val (.int (c' : Nat))), some (.val (.int (t' : Nat))), some (.loc 0), some (.val (.list (aheadD n rs))), y9, y10, y11, y12, y13, y14] ∧ h = [.lst (natsD V)]) ⟨s, c, t, [], v, _, _, _, _, _, _, Nat.le_refl _, hs, rfl, by simp, ww, rfl, rfl⟩ ?_
    rintro m _ _ ⟨p, c', t', V, u, y9, y10, y11, y12, y13, y14, hm, hp, ev, hl, w, rfl, rfl⟩
    cases w with
    | nil =>
      refine .inl ⟨by simp, _, _, _, _, _, _, _, _, _, rfl, ?_⟩
      rw [ev, List.append_nil]
    | @cons _ _ _ k ks u' h0 eg l1 l2 w' =>
      obtain ⟨r, e, o, _⟩ := go_mem2.mp (show k ∈ goL2 rs G p c' t' by rw [eg]; exact List.mem_cons_self)
      have ok := hn.all r (List.mem_of_getElem? e)
      have c1 := ok.c1
      have er' := rdK_of e
      have h0' : (0 : Int) < c' := by omega
      refine .inr ⟨by simp [h0, h0'], c' - (rdK rs k).cost, by rw [er'] at l1 ⊢; omega, ?_⟩
      refine (Out.of_nx (ww_turn (V := V) hn hp (by omega) eg l1 l2)).mono ?_ (fun _ _ z => z)
      rintro _ _ ⟨y10, y11, y12, y13, y14, U, rfl, rfl⟩
      refine ⟨(rdK rs k).other, _, _, V ++ [k], u', _, _, _, _, _, _, Nat.le_refl _, by rw [er']; exact ok.other, by rw [ev, List.append_assoc]; rfl, ?_, w', rfl, rfl⟩
      rw [List.length_append, List.length_singleton]
      rw [er'] at l1 ⊢
      omega
  · rintro _ _ ⟨x4, x5, x6, y9, y10, y11, y12, y13, y14, rfl, rfl⟩
    exact Out.ret (s := .val (.tuple (natsD v))) (h := [.lst (natsD v)]) (by simp) rfl
def frRow (p : (Nat × Nat) × List Nat) : PyData := .tuple [.int (p.1.1 : Nat), .int (p.1.2 : Nat), .tuple (natsD p.2)]
theorem noLs_fr {wf : Nat × Nat → List Nat} : ∀ l : List (Nat × Nat), noLs (l.map fun y => frRow (y, wf y)) = true
  | [] => rfl
  | y :: l => by
    have h : ∀ ws : List Nat, noLs (natsD ws) = true := fun ws => by
      induction ws with
      | nil => rfl
      | cons w ws ih =>
        show (noL (.int (w : Nat)) && noLs (natsD ws)) = true
        rw [ih]
        rfl
    show (noL (frRow (y, wf y)) && noLs (l.map _)) = true
    rw [noLs_fr l]
    show ((true && (true && (noLs (natsD (wf y)) && true))) && true) = true
    rw [h]
    rfl
theorem e_frontIn {n s g : Nat} {rs : List Road} {G : Ff} {wf : Nat × Nat → List Nat} (hn : NetOk n rs) (hs : s < n) (hg : g < n) (r : Run (abtR rs) Fe [⟨0, 0, g⟩] G) (hw : ∀ y ∈ G s, Ww rs G s y.1 y.2 (wf y)) : m_front_in [netD n rs, .int (s : Nat), .int (g : Nat)] [] = .ok (.list ((G s).map fun y => frRow (y, wf y))) [] := by
  have h30 := hn.len
  have inv := r.inv (abt_ok hn) (inv0 hg)
  have et := e_turned (rs := rs) (by omega)
  have ep := e_pairsFrom (n := n) (s := g) (R := .list ((abtR rs).map Road.d)) (abt_ok hn) hg (fun h => by simp) r
  have ef : fenceD n G = .tuple (frD n G) := rfl
  rw [ef] at ep
  have ea := fr_at (G := G) hs
  have ix : ∀ h : Hs, items (.val (netD n rs)) h = some [.int n, .tuple (rs.map Road.d)] := fun h => rfl
  have nd : netD n rs = .tuple [.int n, .tuple (rs.map Road.d)] := rfl
  have low := inv.low s
  have hl := inv.len s
  refine run_eq ?_
  have e0 : mkEnv [false, false, false] [netD n rs, .int (s : Nat), .int (g : Nat)] 0 ++ List.replicate 4 none = [some (.val (netD n rs)), some (.val (.int (s : Nat))), some (.val (.int (g : Nat))), none, none, none, none] := rfl
  rw [e0]
  unfold b_front_in
  refine Out.seqEq (e1 := [some (.val (netD n rs)), some (.val (.int (s : Nat))), some (.val (.int (g : Nat))), some (.val (.int n)), some (.val (.tuple (rs.map Road.d))), none, none]) (h1 := []) (by simp [nd, line_s]) ?_
  refine Out.seqEq (e1 := [some (.val (netD n rs)), some (.val (.int (s : Nat))), some (.val (.int (g : Nat))), some (.val (.int n)), some (.val (.tuple (rs.map Road.d))), some (.val (.tuple (frD n G))), none]) (h1 := []) (by simp [et, ep]) ?_
  have ec := comp_map (tg := .nm 6) (c := tTrue) (f := cBin gAdd (eVar 6) (eTup (aCons (eCall m_way_with [false, false, false, false] false (aCons (eVar 0) (aCons (eVar 5) (aCons (eVar 1) (aCons (eVar 6) aNil))))) aNil))) (env := [some (.val (netD n rs)), some (.val (.int (s : Nat))), some (.val (.int (g : Nat))), some (.val (.int n)), some (.val (.tuple (rs.map Road.d))), some (.val (.tuple (frD n G))), none]) (h := []) (E := fun y => [some (.val (netD n rs)), some (.val (.int (s : Nat))), some (.val (.int (g : Nat))), some (.val (.int n)), some (.val (.tuple (rs.map Road.d))), some (.val (.tuple (frD n G))), some (.val (ctD y))]) (dd := ctD) (w := fun y => frRow (y, wf y)) (fun y => by simp) (fun y => by simp) (G s) [] (fun y my => by
    have h1 := (low y my).1
    have ew := e_wayWith (s := s) hn hs (by omega) (hw y my)
    have ew' : m_way_with [netD n rs, .tuple (frD n G), .int (s : Nat), ctD y] [] = .ok (.tuple (natsD (wf y))) [] := ew
    have ey : ctD y = .tuple [.int (y.1 : Nat), .int (y.2 : Nat)] := rfl
    have ad := v_addT (a := [.int (y.1 : Nat), .int (y.2 : Nat)]) (b := [.tuple (natsD (wf y))]) (h := []) (by simp)
    simp [ew', line_s]
    rw [ey, ad]
    simp [frRow]) (by simp; omega)
  rw [List.nil_append] at ec
  exact Out.ret (s := .loc 0) (h := [.lst ((G s).map fun y => frRow (y, wf y))]) (by simp [ea, ec]) (v_outL (noLs_fr _) rfl)
structure IsFr (rs : List Road) (s g : Nat) (FR : List ((Nat × Nat) × List Nat)) : Prop where
  ord : FR.Pairwise fun a b => a.1.1 < b.1.1 ∧ b.1.2 < a.1.2
  way : ∀ p ∈ FR, SW rs s g p.2 ∧ cW rs p.2 = p.1.1 ∧ tmW rs p.2 = p.1.2 ∧ ∀ w, Wy rs s w g → cW rs w = p.1.1 → tmW rs w = p.1.2 → inW p.2 ≤ inW w
  cov : ∀ w, Wy rs s w g → ∃ p ∈ FR, p.1.1 ≤ cW rs w ∧ p.1.2 ≤ tmW rs w
theorem e_frontEx {n s g : Nat} {rs : List Road} (hn : NetOk n rs) (hs : s < n) (hg : g < n) : ∃ FR, m_front_in [netD n rs, .int (s : Nat), .int (g : Nat)] [] = .ok (.list (FR.map frRow)) [] ∧ IsFr rs s g FR ∧ FR.length ≤ 991 ∧ ∀ p ∈ FR, p.1.1 ≤ 990 ∧ p.1.2 ≤ 990 := by
  obtain ⟨G, r⟩ := run_ex0 (abt_ok hn) hg
  have f := frn_of hn hg r
  have inv := r.inv (abt_ok hn) (inv0 hg)
  have ex : ∀ y : Nat × Nat, ∃ v, y ∈ G s → Ww rs G s y.1 y.2 v ∧ Wy rs s v g ∧ cW rs v = y.1 ∧ tmW rs v = y.2 ∧ ∀ w, Wy rs s w g → cW rs w = y.1 → tmW rs w = y.2 → inW v ≤ inW w := fun y => by
    by_cases m : y ∈ G s
    · obtain ⟨v, h⟩ := ww_ex hn f _ y.1 s y.2 (Nat.lt_succ_self _) m
      exact ⟨v, fun _ => h⟩
    · exact ⟨[], fun z => absurd z m⟩
  obtain ⟨wf, hwf⟩ := Classical.axiomOfChoice ex
  have e := e_frontIn hn hs hg r (wf := wf) (fun y m => (hwf y m).1)
  refine ⟨(G s).map fun y => (y, wf y), by rw [List.map_map]; exact e, ⟨List.pairwise_map.mpr (f.ord s), fun p m => ?_, fun w hw => ?_⟩, by rw [List.length_map]; exact inv.len s, fun p m => ?_⟩
  · obtain ⟨y, my, rfl⟩ := List.mem_map.mp m
    obtain ⟨_, h2, h3, h4, h5⟩ := hwf y my
    refine ⟨⟨h2, f.simple hn h2 (by rw [h3, h4]; exact my)⟩, h3, h4, h5⟩
  · obtain ⟨y, my, h1, h2⟩ := f.cov s w hw
    exact ⟨_, List.mem_map.mpr ⟨y, my, rfl⟩, h1, h2⟩
  · obtain ⟨y, my, rfl⟩ := List.mem_map.mp m
    exact inv.low s y my
theorem noLs_frs : ∀ FR : List ((Nat × Nat) × List Nat), noLs (FR.map frRow) = true
  | [] => rfl
  | p :: l => by
    have h : ∀ ws : List Nat, noLs (natsD ws) = true := fun ws => by
      induction ws with
      | nil => rfl
      | cons w ws ih =>
        show (noL (.int (w : Nat)) && noLs (natsD ws)) = true
        rw [ih]
        rfl
    show (noL (frRow p) && noLs (l.map frRow)) = true
    rw [noLs_frs l]
    show ((true && (true && (noLs (natsD p.2) && true))) && true) = true
    rw [h]
    rfl
theorem e_frontOf {n s g : Nat} {rs : List Road} {FR : List ((Nat × Nat) × List Nat)} (hn : NetOk n rs) (hs : s < n) (hg : g < n) (e : m_front_in [netD n rs, .int (s : Nat), .int (g : Nat)] [] = .ok (.list (FR.map frRow)) []) : m_front_of [netD n rs, .int (s : Nat), .int (g : Nat)] [] = .ok (.list (FR.map frRow)) [] := by
  have e1 := e_needEnds hn hs hg
  have e6 : callN m_front_in [false, false, false] [.val (netD n rs), .val (.int (s : Nat)), .val (.int (g : Nat))] [] = .ok (.loc 0) [.lst (FR.map frRow)] := by
    rw [callN_eq (ns := []) (vw := []) rfl rfl e rfl]
    rfl
  refine run_eq ?_
  have e0 : mkEnv [false, false, false] [netD n rs, .int (s : Nat), .int (g : Nat)] 0 ++ List.replicate 0 none = [some (.val (netD n rs)), some (.val (.int (s : Nat))), some (.val (.int (g : Nat)))] := rfl
  rw [e0]
  unfold b_front_of
  refine Out.seqEq (e1 := [some (.val (netD n rs)), some (.val (.int (s : Nat))), some (.val (.int (g : Nat)))]) (h1 := []) (by simp [e1]) ?_
  exact Out.ret (s := .loc 0) (h := [.lst (FR.map frRow)]) (by simp [e6]) (v_outL (noLs_frs _) rfl)
end FL
namespace FL
open PySem PySem.Spec PyProof.Rows L2 PySem.W
abbrev FrR := (Nat × Nat) × List Nat
end FL
namespace FL
open PySem PySem.Spec PyProof.Rows L2
@[simp] theorem e_amongD {d : PyData} {a b : Int} : m_is_among [d, .int a, .int b] [] = .ok (.bool (amB d a b)) [] := by
  cases d <;> simp [m_is_among, b_is_among]
end FL
namespace FL
open PySem PySem.Spec PyProof.Rows L2
theorem look_put {kvs : List (Key × PyData)} {k k' : Key} {d : PyData} : lookD (putD kvs k d) k' = if k' = k then some d else lookD kvs k' := by
  unfold putD
  by_cases q : (kvs.any fun kv => decide (kv.1 = k)) = true
  · rw [if_pos q]
    induction kvs with
    | nil => simp at q
    | cons x kvs ih =>
      by_cases qx : x.1 = k
      · by_cases e : k' = k
        · subst e
          simp [lookD, qx]
        · have n1 : ¬ x.1 = k' := fun z => e (by rw [← z, qx])
          have n2 : ¬ k = k' := fun z => e z.symm
          have hrest : lookD (kvs.map fun kv => if kv.1 = k then (kv.1, d) else kv) k' = lookD kvs k' := by
            clear ih q
            induction kvs with
            | nil => rfl
            | cons y kvs ih =>
              by_cases qy : y.1 = k
              · have n3 : ¬ y.1 = k' := fun z => e (by rw [← z, qy])
                simp only [List.map_cons, if_pos qy]
                unfold lookD at ih ⊢
                rw [List.find?_cons, List.find?_cons]
                simp [n3]
                simpa using ih
              · simp only [List.map_cons, if_neg qy]
                unfold lookD at ih ⊢
                rw [List.find?_cons, List.find?_cons]
                by_cases z : y.1 = k'
                · simp [z]
                · simp [z]
                  simpa using ih
          rw [if_neg e, List.map_cons, if_pos qx]
          unfold lookD at hrest ⊢
          rw [List.find?_cons, List.find?_cons]
          simp [n1]
          simpa using hrest
      · have q' : (kvs.any fun kv => decide (kv.1 = k)) = true := by
          rw [List.any_cons, Bool.or_eq_true] at q
          rcases q with z | z
          · exact absurd (of_decide_eq_true z) qx
          · exact z
        have ih' := ih q'
        rw [List.map_cons, if_neg qx]
        unfold lookD at ih' ⊢
        rw [List.find?_cons, List.find?_cons]
        by_cases z : x.1 = k'
        · have : ¬ k' = k := fun w => qx (z.trans w)
          simp [z, this]
        · simp [z]
          simpa using ih'
  · rw [if_neg q]
    unfold lookD
    rw [List.find?_append]
    by_cases e : k' = k
    · subst e
      have : kvs.find? (fun kv => decide (kv.1 = k')) = none := by
        rw [List.find?_eq_none]
        intro x hx z
        exact q (List.any_eq_true.mpr ⟨x, hx, z⟩)
      rw [this]
      simp
    · rw [if_neg e]
      have n2 : ¬ k = k' := fun z => e z.symm
      cases kvs.find? (fun kv => decide (kv.1 = k')) with
      | some x => rfl
      | none => simp [n2]
abbrev Pf := Nat → Option Nat
def HasF (kvs : List (Key × PyData)) (F : Pf) : Prop := ∀ p : Nat, lookD kvs (.inl (p : Int)) = (F p).map fun c => .int (c : Nat)
def updF (F : Pf) (p c : Nat) : Pf := fun q => if q = p then some c else F q
theorem HasF.put {kvs : List (Key × PyData)} {F : Pf} (h : HasF kvs F) (p c : Nat) : HasF (putD kvs (.inl (p : Int)) (.int (c : Nat))) (updF F p c) := by
  intro q
  rw [look_put]
  unfold updF
  by_cases e : q = p
  · subst e
    simp
  · have : ¬ (Sum.inl (q : Int) : Key) = Sum.inl (p : Int) := fun z => e (by
      have := Sum.inl.inj z
      omega)
    rw [if_neg this, if_neg e]
    exact h q
theorem v_notInN {ws : List Nat} {r : Nat} {h : Hs} : gNotIn (.val (.int (r : Nat))) (.val (.tuple (natsD ws))) h = some (.bool (!ws.contains r)) := by
  have e1 : shp (.int (r : Nat)) = true := rfl
  obtain ⟨n1, n2, n3⟩ := lay_nats ws
  have e2 : shp (.list (natsD ws)) = true := by
    unfold shp SeqAt.shaped
    simp [PyData.canLay0, PyData.depth, n1, n2]
  show (if shp _ && shp _ then _ else none) = _
  rw [e1, e2, any_nats]
  rfl
end FL
namespace FL
open PySem PySem.Spec PyProof.Rows L2
inductive Rc (rs : List Road) (g : Nat) : Nat → Nat → Prop
  | nil : Rc rs g g 0
  | cons (r : Road) (hr : r ∈ rs) (c : Nat) (h : Rc rs g r.other c) : Rc rs g r.one (r.cost + c)
def IsD (rs : List Road) (g p m : Nat) : Prop := Rc rs g p m ∧ ∀ c, Rc rs g p c → m ≤ c
theorem IsD.uniq {rs : List Road} {g p m m' : Nat} (a : IsD rs g p m) (b : IsD rs g p m') : m = m' := Nat.le_antisymm (a.2 _ b.1) (b.2 _ a.1)
def Leq (F G : Pf) : Prop := ∀ p c, F p = some c → ∃ c', G p = some c' ∧ c' ≤ c
theorem Leq.refl (F : Pf) : Leq F F := fun p c h => ⟨c, h, Nat.le_refl _⟩
theorem Leq.trans {F G K : Pf} (a : Leq F G) (b : Leq G K) : Leq F K := fun p c h => by
  obtain ⟨c1, e1, h1⟩ := a p c h
  obtain ⟨c2, e2, h2⟩ := b p c1 e1
  exact ⟨c2, e2, by omega⟩
theorem upd_same {F : Pf} {p c : Nat} : updF F p c p = some c := by simp [updF]
theorem upd_ne {F : Pf} {p c q : Nat} (h : q ≠ p) : updF F p c q = F q := by simp [updF, h]
end FL
namespace FL
open PySem PySem.Spec PyProof.Rows L2
theorem Wy.ltX {rs : List Road} : ∀ {a : List Nat} {p q : Nat}, Wy rs p a q → ∀ k ∈ a, k < rs.length
  | [], _, _, _, k, m => nomatch m
  | x :: a, p, q, ⟨r, e, _, h⟩, k, m => by
    rcases List.mem_cons.mp m with rfl | m
    · exact (List.getElem?_eq_some_iff.mp e).1
    · exact Wy.ltX h k m
theorem nodup_ltX : ∀ {n : Nat} {L : List Nat}, L.Nodup → (∀ q ∈ L, q < n) → L.length ≤ n
  | 0, [], _, _ => Nat.le_refl _
  | 0, q :: _, _, h => absurd (h q List.mem_cons_self) (Nat.not_lt_zero _)
  | n + 1, L, nd, h => by
    have h1 : (L.erase n).length ≤ n := nodup_ltX (nd.erase n) fun q m => by
      have := h q (List.mem_of_mem_erase m)
      have : q ≠ n := fun e => by
        subst e
        exact (List.Nodup.not_mem_erase nd) m
      omega
    have h2 : L.length ≤ (L.erase n).length + 1 := by
      rw [List.length_erase]
      split <;> omega
    omega
theorem SW.lenX {n s g : Nat} {rs : List Road} {w : List Nat} (hn : NetOk n rs) (hs : s < n) (h : SW rs s g w) : w.length ≤ n := by
  have := nodup_ltX (n := n) h.2 fun x m => by
    rcases List.mem_cons.mp m with rfl | m
    · exact hs
    · obtain ⟨k, mk, rfl⟩ := List.mem_map.mp m
      have hk := h.1.ltX k mk
      have e : rs[k]? = some rs[k] := List.getElem?_eq_getElem hk
      rw [rdK_of e]
      exact (hn.all _ (List.mem_of_getElem? e)).other
  simp [plW, oth] at this
  omega
theorem Alls.nodup {rs : List Road} {s g : Nat} {L : List (List Nat)} (a : Alls rs s g L) : L.Nodup := a.up.imp fun q => q.2
theorem Alls.uniq {rs : List Road} {s g : Nat} {L M : List (List Nat)} (a : Alls rs s g L) (b : Alls rs s g M) : L = M := by
  have e := alls_take a.up b.up (fun t m => (b.iff t).mpr ((a.iff t).mp m)) fun w mw nw => absurd ((a.iff w).mpr ((b.iff w).mp mw)) nw
  have l : M.length ≤ L.length := List.Nodup.length_le_of_subset b.nodup fun w m => (a.iff w).mpr ((b.iff w).mp m)
  rw [e, List.take_of_length_le l]
end FL
namespace FL
open PySem PySem.Spec PyProof.Rows L2 PySem.W
theorem fr_mem {s g c t : Nat} {rs : List Road} {FR : List ((Nat × Nat) × List Nat)} (f : IsFr rs s g FR) : (c, t) ∈ FR.map (·.1) ↔ (∃ w, Wy rs s w g ∧ cW rs w = c ∧ tmW rs w = t) ∧ ∀ w, Wy rs s w g → cW rs w ≤ c → tmW rs w ≤ t → cW rs w = c ∧ tmW rs w = t := by
  have o : (FR.map (·.1)).Pairwise fun a b => a.1 < b.1 ∧ b.2 < a.2 := List.pairwise_map.mpr f.ord
  constructor
  · intro m
    obtain ⟨p, mp, e⟩ := List.mem_map.mp m
    obtain ⟨a, b, d, _⟩ := f.way p mp
    have e1 : p.1.1 = c := by rw [e]
    have e2 : p.1.2 = t := by rw [e]
    refine ⟨⟨p.2, a.1, by omega, by omega⟩, fun w hw h1 h2 => ?_⟩
    obtain ⟨q, mq, q1, q2⟩ := f.cov w hw
    have := ord_eq o (List.mem_map.mpr ⟨q, mq, rfl⟩) m (by show q.1.1 ≤ c; omega) (by show q.1.2 ≤ t; omega)
    have z1 : q.1.1 = c := by rw [this]
    have z2 : q.1.2 = t := by rw [this]
    omega
  · rintro ⟨⟨w, hw, h1, h2⟩, h⟩
    obtain ⟨q, mq, q1, q2⟩ := f.cov w hw
    obtain ⟨a, b, d, _⟩ := f.way q mq
    obtain ⟨z1, z2⟩ := h q.2 a.1 (by omega) (by omega)
    exact List.mem_map.mpr ⟨q, mq, Prod.ext (by show q.1.1 = c; omega) (by show q.1.2 = t; omega)⟩
end FL
namespace FL
open PySem PySem.Spec PyProof.Rows L2
def wyD (w : List Nat) : PyData := .tuple (natsD w)
theorem Wy.lt {rs : List Road} : ∀ {a : List Nat} {p q : Nat}, Wy rs p a q → ∀ k ∈ a, k < rs.length
  | [], _, _, _, k, m => by cases m
  | j :: a, p, q, ⟨r, e, _, h⟩, k, m => by
    rcases List.mem_cons.mp m with rfl | m
    · exact (List.getElem?_eq_some_iff.mp e).1
    · exact Wy.lt h k m
def TW (D : PyData) (T : List (List Nat)) : Prop := (D = .list (T.map wyD) ∨ D = .tuple (T.map wyD)) ∧ T.length ≤ 1000
theorem TW.seq {D : PyData} {T : List (List Nat)} (h : TW D T) (hh : Hs) : seq? (.val D) hh = .ok (T.map wyD) hh := by
  rcases h.1 with rfl | rfl <;> simp
end FL
namespace FL
open PySem PySem.Spec PyProof.Rows L2 PySem.W
theorem noLs_nats : ∀ w : List Nat, noLs (natsD w) = true
  | [] => rfl
  | x :: w => by
    show (noL (.int (x : Nat)) && noLs (natsD w)) = true
    rw [noLs_nats w]
    rfl
theorem no_wy (w : List Nat) : noL (wyD w) = true ∧ (wyD w).hasDict = false := by
  obtain ⟨_, _, n3⟩ := lay_nats w
  exact ⟨noLs_nats w, by simpa [wyD, PyData.hasDict] using n3⟩
end FL
namespace FL
open PySem PySem.Spec PyProof.Rows L2 PySem.W
theorem nodup_ltN : ∀ {n : Nat} {L : List Nat}, L.Nodup → (∀ q ∈ L, q < n) → L.length ≤ n
  | 0, [], _, _ => Nat.le_refl _
  | 0, q :: _, _, h => absurd (h q List.mem_cons_self) (Nat.not_lt_zero _)
  | n + 1, L, nd, h => by
    have h1 : (L.erase n).length ≤ n := nodup_ltN (nd.erase n) fun q m => by
      have := h q (List.mem_of_mem_erase m)
      have : q ≠ n := fun e => by
        subst e
        exact (List.Nodup.not_mem_erase nd) m
      omega
    have h2 : L.length ≤ (L.erase n).length + 1 := by
      rw [List.length_erase]
      split <;> omega
    omega
theorem Wy.lo {n : Nat} {rs : List Road} (hn : NetOk n rs) {a : List Nat} {p q : Nat} (h : Wy rs p a q) (hp : p < n) : ∀ x ∈ plW rs p a, x < n := fun x m => by
  rcases List.mem_cons.mp m with rfl | m
  · exact hp
  · obtain ⟨k, mk, rfl⟩ := List.mem_map.mp m
    have hk := h.lt k mk
    have e : rs[k]? = some rs[k] := List.getElem?_eq_getElem hk
    rw [rdK_of e]
    exact (hn.all _ (List.mem_of_getElem? e)).other
theorem SW.len {n s g : Nat} {rs : List Road} {w : List Nat} (hn : NetOk n rs) (hs : s < n) (h : SW rs s g w) : w.length < n := by
  have := nodup_ltN h.2 (h.1.lo hn hs)
  simp [plW, oth] at this
  omega
end FL
namespace FL
open PySem PySem.Spec PyProof.Rows L2
def kidB (rs : List Road) (s : Nat) (w : List Nat) (q k : Nat) : Bool := decide ((rdK rs k).one = q) && !(plW rs s w).contains (rdK rs k).other
def kidTo (rs : List Road) (s : Nat) (w : List Nat) (q j : Nat) : List (List Nat) := ((List.range j).filter (kidB rs s w q)).map fun k => w ++ [k]
def kidW (rs : List Road) (s : Nat) (w : List Nat) (q : Nat) : List (List Nat) := kidTo rs s w q rs.length
theorem kidTo_succ {rs : List Road} {s q j : Nat} {w : List Nat} : kidTo rs s w q (j + 1) = kidTo rs s w q j ++ if kidB rs s w q j = true then [w ++ [j]] else [] := by
  unfold kidTo
  rw [List.range_succ, List.filter_append, List.map_append]
  congr 1
  by_cases h : kidB rs s w q j = true <;> simp [h]
def GdW (rs : List Road) (s : Nat) (b : List Nat) : Prop := ∃ q, Wy rs s b q ∧ (plW rs s b).Nodup
theorem kid_ok {rs : List Road} {s q : Nat} {w v : List Nat} (hw : Wy rs s w q) (nd : (plW rs s w).Nodup) (m : v ∈ kidW rs s w q) : GdW rs s v ∧ v.length = w.length + 1 := by
  obtain ⟨k, mk, rfl⟩ := List.mem_map.mp m
  obtain ⟨m1, m2⟩ := List.mem_filter.mp mk
  have hk : k < rs.length := List.mem_range.mp m1
  have e : rs[k]? = some rs[k] := List.getElem?_eq_getElem hk
  unfold kidB at m2
  rw [Bool.and_eq_true, decide_eq_true_eq, rdK_of e] at m2
  obtain ⟨c1, c2⟩ := m2
  have c3 : rs[k].other ∉ plW rs s w := by simpa using c2
  refine ⟨⟨rs[k].other, hw.app (show Wy rs q [k] rs[k].other from ⟨rs[k], e, c1, rfl⟩), ?_⟩, by simp⟩
  rw [plW_app, List.nodup_append]
  refine ⟨nd, by simp [oth], fun a ma b mb => ?_⟩
  have : b = rs[k].other := by simpa [oth, rdK_of e] using mb
  rw [this]
  exact fun z => c3 (z ▸ ma)
structure Cov (rs : List Road) (s g : Nat) (F B : List (List Nat)) : Prop where
  sw : ∀ v ∈ F, SW rs s g v
  ok : ∀ b ∈ B, GdW rs s b
  one : ∀ v, SW rs s g v → F.count v + B.countP (fun b => b.isPrefixOf v) = 1
theorem Cov.start {rs : List Road} {s g : Nat} : Cov rs s g [] [[]] := ⟨by simp, fun b m => by
  rw [List.mem_singleton.mp m]
  exact ⟨s, rfl, by simp [plW, oth]⟩, fun v _ => by simp⟩
theorem pre_iff {w v : List Nat} : w.isPrefixOf v = true ↔ ∃ u, v = w ++ u := by
  rw [List.isPrefixOf_iff_prefix]
  exact ⟨fun ⟨u, e⟩ => ⟨u, e.symm⟩, fun ⟨u, e⟩ => ⟨u, e.symm⟩⟩
theorem Cov.goal {rs : List Road} {s g : Nat} {F B : List (List Nat)} {w : List Nat} (c : Cov rs s g F (B ++ [w])) (hw : Wy rs s w g) : Cov rs s g (F ++ [w]) B := by
  obtain ⟨q, hq, nd⟩ := c.ok w (by simp)
  refine ⟨fun v m => ?_, fun b m => c.ok b (List.mem_append_left _ m), fun v hv => ?_⟩
  · rcases List.mem_append.mp m with m | m
    · exact c.sw v m
    · rw [List.mem_singleton.mp m]
      exact ⟨hw, nd⟩
  · have := c.one v hv
    rw [List.countP_append] at this
    rw [List.count_append]
    have e : [w].count v = [w].countP fun b => b.isPrefixOf v := by
      by_cases z : w.isPrefixOf v = true
      · obtain ⟨u, rfl⟩ := pre_iff.mp z
        have := SW.pre hw hv
        subst this
        simp [z]
      · have ne : w ≠ v := fun e => z (by rw [e]; exact pre_iff.mpr ⟨[], by simp⟩)
        simp [z, ne]
    omega
theorem Cov.step {rs : List Road} {s g q : Nat} {F B : List (List Nat)} {w : List Nat} (c : Cov rs s g F (B ++ [w])) (hw : Wy rs s w q) (hq : q ≠ g) : Cov rs s g F (B ++ kidW rs s w q) := by
  obtain ⟨q', hq', nd⟩ := c.ok w (by simp)
  refine ⟨c.sw, fun b m => ?_, fun v hv => ?_⟩
  · rcases List.mem_append.mp m with m | m
    · exact c.ok b (List.mem_append_left _ m)
    · exact (kid_ok hw nd m).1
  · have := c.one v hv
    rw [List.countP_append] at this
    rw [List.countP_append]
    have e : (kidW rs s w q).countP (fun b => b.isPrefixOf v) = [w].countP fun b => b.isPrefixOf v := by
      by_cases z : w.isPrefixOf v = true
      · obtain ⟨u, rfl⟩ := pre_iff.mp z
        cases u with
        | nil =>
          rw [List.append_nil] at hv
          exact absurd (hw.uniq hv.1) hq
        | cons k u =>
          obtain ⟨hv1, hv2⟩ := hv
          obtain ⟨m, w1, r, e1, e2, w2⟩ := hv1.split
          have em := hw.uniq w1
          subst em
          have kb : kidB rs s w q k = true := by
            unfold kidB
            rw [rdK_of e1]
            rw [plW_app, List.nodup_append] at hv2
            have : r.other ∉ plW rs s w := fun m => hv2.2.2 _ m r.other (by simp [oth, rdK_of e1]) rfl
            simp [e2, this]
          have hk : k < rs.length := (List.getElem?_eq_some_iff.mp e1).1
          have c1 : [w].countP (fun b => b.isPrefixOf (w ++ k :: u)) = 1 := by simp [z]
          rw [c1]
          unfold kidW kidTo
          rw [List.countP_map]
          have : ((List.range rs.length).filter (kidB rs s w q)).countP ((fun b => b.isPrefixOf (w ++ k :: u)) ∘ fun k => w ++ [k]) = ((List.range rs.length).filter (kidB rs s w q)).count k := by
            unfold List.count
            congr 1
            funext j
            rw [Bool.eq_iff_iff]
            simp only [Function.comp, pre_iff, beq_iff_eq, List.append_assoc, List.append_cancel_left_eq]
            constructor
            · rintro ⟨t, e⟩
              simp at e
              exact e.1.symm
            · rintro rfl
              exact ⟨u, rfl⟩
          rw [this]
          have n1 := List.nodup_iff_count.mp ((List.nodup_range (n := rs.length)).filter (kidB rs s w q)) k
          have n2 := List.count_pos_iff.mpr (show k ∈ (List.range rs.length).filter (kidB rs s w q) from List.mem_filter.mpr ⟨List.mem_range.mpr hk, kb⟩)
          omega
      · have c1 : [w].countP (fun b => b.isPrefixOf v) = 0 := by simp [z]
        rw [c1, List.countP_eq_zero]
        intro b mb hb
        obtain ⟨k, _, rfl⟩ := List.mem_map.mp mb
        obtain ⟨u, rfl⟩ := pre_iff.mp hb
        exact z (pre_iff.mpr ⟨k :: u, by simp⟩)
    omega
def ordW (rs : List Road) (F : List (List Nat)) : List (Nat × List Nat) := (F.map (kyW rs)).mergeSort leW
theorem Cov.alls {rs : List Road} {s g : Nat} {F : List (List Nat)} (c : Cov rs s g F []) : Alls rs s g ((ordW rs F).map (·.2)) := by
  have pm : (ordW rs F).Perm (F.map (kyW rs)) := List.mergeSort_perm _ _
  have hk : ∀ x ∈ ordW rs F, x = kyW rs x.2 ∧ x.2 ∈ F := fun x m => by
    obtain ⟨w, mw, rfl⟩ := List.mem_map.mp (pm.mem_iff.mp m)
    exact ⟨rfl, mw⟩
  have nd : F.Nodup := List.nodup_iff_count.mpr fun v => by
    by_cases m : v ∈ F
    · have := c.one v (c.sw v m)
      omega
    · rw [List.count_eq_zero.mpr m]
      omega
  have nd2 : (ordW rs F).Nodup := pm.nodup_iff.mpr (by
    unfold List.Nodup
    rw [List.pairwise_map]
    exact List.Pairwise.imp (fun {a b} h e => h (Prod.mk.inj e).2) nd)
  refine ⟨fun w => ⟨fun m => ?_, fun h => ?_⟩, ?_⟩
  · obtain ⟨x, mx, rfl⟩ := List.mem_map.mp m
    exact c.sw _ (hk x mx).2
  · have := c.one w h
    have mw : w ∈ F := List.count_pos_iff.mp (by simp at this; omega)
    exact List.mem_map.mpr ⟨kyW rs w, pm.mem_iff.mpr (List.mem_map_of_mem mw), rfl⟩
  · rw [List.pairwise_map]
    have srt : (ordW rs F).Pairwise fun a b => leW a b = true := List.pairwise_mergeSort leW_trans leW_total _
    refine List.Pairwise.imp_of_mem (fun {a b} ma mb h => ?_) (srt.and nd2)
    obtain ⟨ea, _⟩ := hk a ma
    obtain ⟨eb, _⟩ := hk b mb
    exact ⟨by rw [← ea, ← eb]; exact h.1, fun z => h.2 (by rw [ea, eb, z])⟩
def sz : Nat → Nat
  | 0 => 1
  | k + 1 => 1 + 12 * sz k
def mz (n : Nat) (B : List (List Nat)) : Nat := (B.map fun b => sz (n - 1 - b.length)).sum
theorem GdW.len {n s : Nat} {rs : List Road} {w : List Nat} (hn : NetOk n rs) (hs : s < n) (h : GdW rs s w) : w.length < n := by
  obtain ⟨q, h1, h2⟩ := h
  have := nodup_ltN h2 (h1.lo hn hs)
  simp [plW, oth] at this
  omega
end FL
namespace FL
open PySem PySem.Spec PyProof.Rows L2
def opB (rs : List Road) (s : Nat) (w : List Nat) (r : Road) : Bool := !(plW rs s w).dropLast.contains r.one
def wt (rs : List Road) (s : Nat) (w : List Nat) : Nat := 2 ^ rs.countP (opB rs s w)
def mu2 (rs : List Road) (s : Nat) (B : List (List Nat)) : Nat := (B.map (wt rs s)).sum
theorem mu2_app {rs : List Road} {s : Nat} {B C : List (List Nat)} : mu2 rs s (B ++ C) = mu2 rs s B + mu2 rs s C := by simp [mu2]
theorem mu2_one {rs : List Road} {s : Nat} {w : List Nat} : mu2 rs s [w] = wt rs s w := by simp [mu2]
theorem wt_pos {rs : List Road} {s : Nat} {w : List Nat} : 1 ≤ wt rs s w := Nat.pos_of_ne_zero (by unfold wt; exact Nat.ne_of_gt (Nat.two_pow_pos _))
theorem mu2_len {rs : List Road} {s : Nat} : ∀ B : List (List Nat), B.length ≤ mu2 rs s B
  | [] => Nat.le_refl _
  | b :: B => by
    have h1 := mu2_len (rs := rs) (s := s) B
    have h2 := wt_pos (rs := rs) (s := s) (w := b)
    show B.length + 1 ≤ wt rs s b + mu2 rs s B
    omega
theorem mu2_all {rs : List Road} {s x : Nat} : ∀ B : List (List Nat), (∀ b ∈ B, wt rs s b = x) → mu2 rs s B = B.length * x
  | [], _ => by simp [mu2]
  | b :: B, h => by
    have h1 := mu2_all (rs := rs) (s := s) B fun c m => h c (List.mem_cons_of_mem _ m)
    have h2 := h b List.mem_cons_self
    show wt rs s b + mu2 rs s B = (B.length + 1) * x
    rw [h1, h2, Nat.add_mul, Nat.one_mul, Nat.add_comm]
theorem range_rd {rs : List Road} {P : Road → Bool} : ∀ (t pre : List Road), rs = pre ++ t → ((List.range' pre.length t.length).countP fun k => P (rdK rs k)) = t.countP P
  | [], pre, _ => by simp
  | r :: t, pre, h => by
    have e : rs[pre.length]? = some r := by rw [h, List.getElem?_append_right (Nat.le_refl _), Nat.sub_self]; rfl
    have ih := range_rd (rs := rs) (P := P) t (pre ++ [r]) (by rw [h, List.append_assoc]; rfl)
    rw [List.length_append, List.length_singleton] at ih
    show (List.range' pre.length (t.length + 1)).countP _ = _
    rw [List.range'_succ, List.countP_cons, List.countP_cons, ih, rdK_of e]
theorem kid_len {rs : List Road} {s q : Nat} {w : List Nat} : (kidW rs s w q).length ≤ rs.countP fun r => decide (r.one = q) := by
  unfold kidW kidTo
  rw [List.length_map, ← List.countP_eq_length_filter, List.range_eq_range']
  refine Nat.le_trans (List.countP_mono_left (fun k _ h => ?_)) (Nat.le_of_eq (range_rd (rs := rs) (P := fun r => decide (r.one = q)) rs [] rfl))
  unfold kidB at h
  rw [Bool.and_eq_true] at h
  exact h.1
theorem split_cnt {q : Nat} {ini : List Nat} (nq : q ∉ ini) : ∀ rs : List Road, (rs.countP fun r => !ini.contains r.one) = (rs.countP fun r => !(ini ++ [q]).contains r.one) + rs.countP fun r => decide (r.one = q)
  | [] => rfl
  | r :: rs => by
    have ih := split_cnt nq rs
    rw [List.countP_cons, List.countP_cons, List.countP_cons, ih]
    by_cases z : r.one = q
    · have h1 : ini.contains r.one = false := by rw [z]; simpa using nq
      have h2 : (ini ++ [q]).contains r.one = true := by rw [z]; simp
      rw [h1, h2, decide_eq_true z]
      simp
      omega
    · have h2 : (ini ++ [q]).contains r.one = ini.contains r.one := by
        rw [Bool.eq_iff_iff]
        simp [z]
      rw [h2, decide_eq_false z]
      simp
      omega
theorem mu2_step {s q : Nat} {rs : List Road} {B : List (List Nat)} {w : List Nat} (hw : Wy rs s w q) (nd : (plW rs s w).Nodup) : mu2 rs s (B ++ kidW rs s w q) < mu2 rs s (B ++ [w]) := by
  obtain ⟨ini, ei⟩ := hw.last
  have nq : q ∉ ini := fun m => by
    rw [ei, List.nodup_append] at nd
    exact nd.2.2 q m q (List.mem_singleton.mpr rfl) rfl
  have e0 : wt rs s w = 2 ^ ((rs.countP fun r => !(ini ++ [q]).contains r.one) + rs.countP fun r => decide (r.one = q)) := by
    rw [← split_cnt nq]
    unfold wt opB
    rw [ei, List.dropLast_concat]
  have e1 : ∀ b ∈ kidW rs s w q, wt rs s b = 2 ^ (rs.countP fun r => !(ini ++ [q]).contains r.one) := fun b mb => by
    obtain ⟨k, _, rfl⟩ := List.mem_map.mp mb
    unfold wt opB
    have : (plW rs s (w ++ [k])).dropLast = ini ++ [q] := by
      rw [plW_app, ei]
      show (ini ++ [q] ++ [(rdK rs k).other]).dropLast = _
      rw [List.dropLast_concat]
    rw [this]
  rw [mu2_app, mu2_app, mu2_one, mu2_all _ e1, e0, Nat.pow_add, Nat.mul_comm]
  have h1 := kid_len (rs := rs) (s := s) (q := q) (w := w)
  have h2 : (rs.countP fun r => decide (r.one = q)) < 2 ^ (rs.countP fun r => decide (r.one = q)) := Nat.lt_two_pow_self
  have h3 := Nat.mul_lt_mul_of_pos_left (Nat.lt_of_le_of_lt h1 h2) (Nat.two_pow_pos (rs.countP fun r => !(ini ++ [q]).contains r.one))
  omega
theorem mu2_first {s : Nat} {rs : List Road} (h : rs.length ≤ 12) : mu2 rs s (kidW rs s [] s) ≤ 2048 := by
  have nq : s ∉ ([] : List Nat) := by simp
  have e1 : ∀ b ∈ kidW rs s [] s, wt rs s b = 2 ^ (rs.countP fun r => !([] ++ [s]).contains r.one) := fun b mb => by
    obtain ⟨k, _, rfl⟩ := List.mem_map.mp mb
    unfold wt opB
    have : (plW rs s ([] ++ [k])).dropLast = [] ++ [s] := by
      rw [plW_app]
      show ([s] ++ [(rdK rs k).other]).dropLast = _
      rw [List.dropLast_concat]
      rfl
    rw [this]
  rw [mu2_all _ e1]
  have h1 := kid_len (rs := rs) (s := s) (q := s) (w := [])
  have h2 := split_cnt nq rs
  have h3 : (rs.countP fun r => !([] : List Nat).contains r.one) ≤ 12 := Nat.le_trans List.countP_le_length h
  rw [h2] at h3
  generalize (rs.countP fun r => !([] ++ [s]).contains r.one) = c at *
  generalize (rs.countP fun r => decide (r.one = s)) = d at *
  cases d with
  | zero =>
    have : (kidW rs s [] s).length = 0 := by omega
    rw [this]
    omega
  | succ d =>
    have h4 : d < 2 ^ d := Nat.lt_two_pow_self
    have h5 : (kidW rs s [] s).length * 2 ^ c ≤ 2 ^ d * 2 ^ c := Nat.mul_le_mul_right _ (by omega)
    rw [← Nat.pow_add] at h5
    have h6 : 2 ^ (d + c) ≤ 2 ^ 11 := Nat.pow_le_pow_right (by decide) (by omega)
    exact Nat.le_trans h5 h6
end FL
namespace FL
open PySem PySem.Spec PyProof.Rows L2
def jnD (j : Nat) (r : Road) : PyData := .tuple [.int j, .int r.other, .int r.cost, .int r.time]
def jnF (p : Nat) : Nat → List Road → List PyData
  | _, [] => []
  | j, r :: rs => if r.one = p then jnD j r :: jnF p (j + 1) rs else jnF p (j + 1) rs
def joinsD (n : Nat) (rs : List Road) : List PyData := (List.range n).map fun p => .list (jnF p 0 rs)
theorem joinsD_get {n p : Nat} {rs : List Road} (h : p < n) : (joinsD n rs)[p]? = some (.list (jnF p 0 rs)) := by
  unfold joinsD
  rw [List.getElem?_map, List.getElem?_range h]
  rfl
def fnL (n : Nat) (f : Nat → List PyData) : List (List PyData) := (List.range n).map f
theorem fnL_len {n : Nat} {f : Nat → List PyData} : (fnL n f).length = n := by simp [fnL]
theorem fnL_get {n p : Nat} {f : Nat → List PyData} (h : p < n) : (fnL n f)[p]? = some (f p) := by
  unfold fnL
  rw [List.getElem?_map, List.getElem?_range h]
  rfl
theorem fnL_set {n p : Nat} {f : Nat → List PyData} {v : List PyData} (h : p < n) : (fnL n f).set p v = fnL n fun q => if q = p then v else f q := by
  refine List.ext_getElem? fun i => ?_
  rw [List.getElem?_set, fnL_len]
  by_cases q : p = i
  · subst q
    rw [if_pos rfl, if_pos h, fnL_get h, if_pos rfl]
  · rw [if_neg q]
    by_cases q2 : i < n
    · rw [fnL_get q2, fnL_get q2, if_neg (fun z => q z.symm)]
    · rw [List.getElem?_eq_none (by rw [fnL_len]; omega), List.getElem?_eq_none (by rw [fnL_len]; omega)]
theorem cut_from_1 {ds : List PyData} : cutD ds (some 1) none = ds.drop 1 := cut_from (k := 1)
theorem e_joins {n : Nat} {rs : List Road} (h : NetOk n rs) : m__law_joins [netD n rs] [] = .ok (.list (joinsD n rs)) [] := by
  have hl := h.len
  have h2 := h.n2
  unfold m__law_joins
  refine run_eq ?_
  have e0 : mkEnv [false] [netD n rs] 0 ++ List.replicate 4 none = [some (.val (netD n rs)), none, none, none, none] := rfl
  rw [e0]
  unfold b__law_joins
  apply Out.seqEq (e1 := [some (.val (netD n rs)), some (.loc 0), none, none, none]) (h1 := [.lls (fnL n fun _ => [])])
  · have ec : eCompE (srcRng1 (aCons (cBin gIx (eVar 0) (eK (.int 0))) aNil)) [some (.val (netD n rs)), none, none, none, none] [] = .ok (.loc 0) [.lls (fnL n fun _ => [])] := by
      have es : srcRng1 (aCons (cBin gIx (eVar 0) (eK (.int 0))) aNil) [some (.val (netD n rs)), none, none, none, none] [] = .ok (upTo 0 n) [] := by
        simp [netD]
        rw [v_rng1 (by omega) (by omega)]
        simp
      unfold eCompE
      rw [es]
      have el : (upTo 0 n).length = n := by simp [upTo]
      rw [v_bind, el, if_pos (by omega)]
      have er : List.replicate n ([] : List PyData) = fnL n fun _ => [] := by
        refine List.ext_getElem? fun i => ?_
        by_cases q : i < n
        · rw [fnL_get q, List.getElem?_replicate, if_pos q]
        · rw [List.getElem?_eq_none (by simp; omega), List.getElem?_eq_none (by rw [fnL_len]; omega)]
      rw [er]
      rfl
    simp [ec]
  refine Out.seq (A := fun env h => ∃ (z2 z3 z4 : Option Sl), env = [some (.val (netD n rs)), some (.loc 0), z2, z3, z4] ∧ h = [.lls (fnL n fun p => jnF p 0 rs)]) ?_ ?_
  · refine (Out.forR (ds := enumD 0 (rs.map Road.d)) (h1 := [.lls (fnL n fun _ => [])]) (I := fun rest env h => ∃ (j : Nat) (todo : List Road) (acc : Nat → List PyData) (z2 z3 z4 : Option Sl), rest = enumD j (todo.map Road.d) ∧ (∀ r ∈ todo, r.Ok n) ∧ (∀ p, acc p ++ jnF p j todo = jnF p 0 rs) ∧ (∀ p, (acc p).length ≤ j) ∧ j + todo.length ≤ 30 ∧
        env = [some (.val (netD n rs)), some (.loc 0), z2, z3, z4] ∧ h = [.lls (fnL n acc)]) (by simp [netD]) ⟨0, rs, fun _ => [], none, none, none, rfl, h.all, fun p => by simp, fun p => by simp, by simpa using hl, rfl, rfl⟩ ?_).mono ?_ (fun _ _ z => z)
    · rintro d rest _ _ ⟨j, todo, acc, z2, z3, z4, er, hok, ha, hlen, hj, rfl, rfl⟩
      cases todo with
      | nil => cases er
      | cons r todo =>
        rw [List.map_cons, enum_cons, List.cons.injEq] at er
        obtain ⟨rfl, rfl⟩ := er
        have ok := hok r List.mem_cons_self
        have hj' : j + todo.length + 1 ≤ 30 := hj
        refine ⟨_, by simp; rfl, ?_⟩
        refine Out.next (e := [some (.val (netD n rs)), some (.loc 0), some (.val (.int j)), some (.val r.d), z4]) (h := [.lls (fnL n fun q => if q = r.one then acc r.one ++ [jnD j r] else acc q)]) ?_ ⟨j + 1, todo, _, _, _, _, rfl, fun x m => hok x (List.mem_cons_of_mem _ m), fun p => ?_, fun p => ?_, by omega, rfl, rfl⟩
        · have e1 : eIxI (eVar 1) (cBin gIx (eVar 3) (eK (.int 0))) [some (.val (netD n rs)), some (.loc 0), some (.val (.int j)), some (.val r.d), z4] [.lls (fnL n acc)] = .ok (.inn 0 r.one) [.lls (fnL n acc)] := by
            unfold eIxI
            simp [Road.d]
            have : innAt (.loc 0) (.val (.int (r.one : Nat))) [.lls (fnL n acc)] = some (.inn 0 r.one) := by
              show (ixN (fnL n acc).length (r.one : Int)).map _ = _
              rw [fnL_len, ixN_nat ok.one]
              rfl
            rw [this]
          have e2 : aCons (cBin gAdd (eTup (aCons (eVar 2) aNil)) (eSl (eVar 3) (oSome (eK (.int 1))) oNone)) aNil [some (.val (netD n rs)), some (.loc 0), some (.val (.int j)), some (.val r.d), z4] [.lls (fnL n acc)] = .ok [.val (jnD j r)] [.lls (fnL n acc)] := by
            simp [line_s, Road.d, cut_from_1]
            rw [v_addT (by simp)]
            simp [jnD]
          have e3 : mAppI (.inn 0 r.one) [.val (jnD j r)] [.lls (fnL n acc)] = some (.none, [.lls (fnL n fun q => if q = r.one then acc r.one ++ [jnD j r] else acc q)]) := by
            show (match (fnL n acc)[r.one]? with
              | some ds => if ds.length < 16777216 then some (PyData.none, [Ob.lls (fnL n acc)].set 0 (.lls ((fnL n acc).set r.one (ds ++ [jnD j r])))) else none
              | none => none) = _
            rw [fnL_get ok.one]
            dsimp only
            rw [if_pos (by have := hlen r.one; omega), fnL_set ok.one]
            rfl
          have e4 : litems (.inn 0 r.one) [.lls (fnL n acc)] = some (acc r.one) := by
            show (fnL n acc)[r.one]? = _
            rw [fnL_get ok.one]
          unfold l__law_joins_1
          simp only [v_exp, v_mt, e1, v_bind, e4, e2, e3]
          rfl
        · have := ha p
          by_cases q : r.one = p
          · subst q
            rw [if_pos rfl, ← this]
            simp [jnF]
          · rw [if_neg (fun z => q z.symm), ← this]
            simp [jnF, q]
        · have := hlen p
          have := hlen r.one
          split <;> simp <;> omega
    · rintro _ _ ⟨j, todo, acc, z2, z3, z4, er, hok, ha, hlen, hj, rfl, rfl⟩
      cases todo with
      | nil =>
        have : acc = fun p => jnF p 0 rs := by
          funext p
          have := ha p
          simpa [jnF] using this
        rw [this]
        exact ⟨_, _, _, rfl, rfl⟩
      | cons r t => simp [enumD] at er
  · rintro _ _ ⟨z2, z3, z4, rfl, rfl⟩
    refine Out.ret (s := .loc 0) (h := [.lls (fnL n fun p => jnF p 0 rs)]) (by simp) ?_
    show Rz.ok (PyData.list ((fnL n fun p => jnF p 0 rs).map .list)) [] = _
    simp [fnL, joinsD]
end FL
namespace FL
open PySem PySem.Spec PyProof.Rows L2 PySem.W
def endV (rs : List Road) : Nat → List Nat → Nat
  | p, [] => p
  | _, k :: ws => endV rs (rdK rs k).other ws
theorem Wy.endV {rs : List Road} : ∀ {a : List Nat} {p q : Nat}, Wy rs p a q → FL.endV rs p a = q
  | [], p, q, h => h
  | k :: a, p, q, ⟨r, e1, _, h⟩ => by
    show FL.endV rs (rdK rs k).other a = q
    rw [rdK_of e1]
    exact Wy.endV h
def stJ (rs : List Road) (s : Nat) (w : List Nat) : PyData := .tuple [wyD w, .int (endV rs s w : Nat), .tuple (natsD (plW rs s w)), .int (cW rs w : Nat)]
def rowJ (rs : List Road) (w : List Nat) : PyData := rowW (kyW rs w)
theorem lay_stJ {rs : List Road} {s : Nat} {B : List (List Nat)} : ∀ d ∈ B.map (stJ rs s), d.canLay0 = true ∧ d.depth ≤ 2 := fun d m => by
  obtain ⟨w, _, rfl⟩ := List.mem_map.mp m
  obtain ⟨a, b, _⟩ := lay_nats w
  obtain ⟨a', b', _⟩ := lay_nats (plW rs s w)
  simp [stJ, wyD, PyData.canLay0, PyData.canLayAll0, PyData.depth, PyData.depthAll, a, b, a', b']
theorem sortB_rowsJ {ps : List (Nat × List Nat)} (hl : ps.length ≤ 16777216) : sortB (ps.map rowW) = true := by
  unfold sortB
  simp only [Bool.and_eq_true, List.all_eq_true, List.mem_map, decide_eq_true_eq, List.length_map]
  refine ⟨⟨⟨⟨?_, ?_⟩, ?_⟩, ?_⟩, hl⟩
  · rintro _ ⟨a, _, rfl⟩ _ ⟨b, _, rfl⟩
    exact alike_row a b
  · rintro _ ⟨a, _, rfl⟩
    rfl
  · rintro _ ⟨a, _, rfl⟩
    obtain ⟨n1, n2, n3⟩ := lay_nats a.2
    simp [rowW, PyData.depth, PyData.depthAll, n2]
  · rintro _ ⟨a, _, rfl⟩
    obtain ⟨n1, n2, n3⟩ := lay_nats a.2
    simp [rowW, PyData.hasDict, PyData.hasDictAll, n3]
theorem v_sortedJ {h : Hs} {k : Nat} {ps : List (Nat × List Nat)} (e : h[k]? = some (.lst (ps.map rowW))) (hl : ps.length ≤ 16777216) : gSorted [.loc k] h = some (.list ((ps.mergeSort leW).map rowW)) := by
  have el : litems (.loc k) h = some (ps.map rowW) := by rw [v_liO, e]; rfl
  show (match litems (.loc k) h with
    | some ds => if sortB ds = true then some (PyData.list (srtD ds)) else none
    | none => none) = _
  rw [el]
  dsimp only
  rw [if_pos (sortB_rowsJ hl), srt_rows]
def kidsJ (rs : List Road) (s : Nat) (w : List Nat) (q : Nat) : Nat → List Road → List (List Nat)
  | _, [] => []
  | j, r :: t => (if (decide (r.one = q) && !(plW rs s w).contains r.other) = true then [w ++ [j]] else []) ++ kidsJ rs s w q (j + 1) t
theorem drop_consJ {rs todo : List Road} {r : Road} {j : Nat} (h : rs.drop j = r :: todo) : rs[j]? = some r ∧ rs.drop (j + 1) = todo := by
  have h1 : (rs.drop j)[0]? = some r := by rw [h]; rfl
  rw [List.getElem?_drop] at h1
  refine ⟨by simpa using h1, ?_⟩
  have : rs.drop (j + 1) = (rs.drop j).drop 1 := by rw [List.drop_drop]
  rw [this, h]
  rfl
theorem kidsJ_is {rs : List Road} {s q : Nat} {w : List Nat} : ∀ (t : List Road) (j : Nat), rs.drop j = t → j + t.length = rs.length → kidTo rs s w q j ++ kidsJ rs s w q j t = kidW rs s w q
  | [], j, h, hl => by
    have : j = rs.length := by simpa using hl
    subst this
    unfold kidsJ kidW
    rw [List.append_nil]
  | r :: t, j, h, hl => by
    obtain ⟨h1, h2⟩ := drop_consJ h
    have ih := kidsJ_is (rs := rs) (s := s) (q := q) (w := w) t (j + 1) h2 (by simp at hl; omega)
    rw [← ih, kidTo_succ, List.append_assoc]
    congr 1
    show _ = (if kidB rs s w q j = true then [w ++ [j]] else []) ++ _
    conv => lhs; unfold kidsJ
    unfold kidB
    rw [rdK_of h1]
theorem jn_next {rs : List Road} {s q : Nat} {w : List Nat} {d : PyData} {rest : List PyData} : ∀ (t : List Road) (j : Nat), d :: rest = jnF q j t → ∃ (i : Nat) (r : Road) (t' : List Road), r ∈ t ∧ d = jnD i r ∧ r.one = q ∧ rest = jnF q (i + 1) t' ∧ (∀ x ∈ t', x ∈ t) ∧ t'.length < t.length ∧ (∀ m, rs.drop m = t → m = j → rs.drop (i + 1) = t' ∧ rs[i]? = some r) ∧ kidsJ rs s w q j t = (if (!(plW rs s w).contains r.other) = true then [w ++ [i]] else []) ++ kidsJ rs s w q (i + 1) t'
  | [], j, h => by cases h
  | r :: t, j, h => by
    unfold jnF at h
    by_cases z : r.one = q
    · rw [if_pos z, List.cons.injEq] at h
      refine ⟨j, r, t, List.mem_cons_self, h.1, z, h.2, fun x m => List.mem_cons_of_mem _ m, by simp, fun m hm e => by subst e; obtain ⟨a, b⟩ := drop_consJ hm; exact ⟨b, a⟩, ?_⟩
      conv => lhs; unfold kidsJ
      rw [decide_eq_true z, Bool.true_and]
    · rw [if_neg z] at h
      obtain ⟨i, r', t', m, e1, e2, e3, e4, e5, e7, e6⟩ := jn_next (rs := rs) (s := s) (w := w) t (j + 1) h
      refine ⟨i, r', t', List.mem_cons_of_mem _ m, e1, e2, e3, fun x m => List.mem_cons_of_mem _ (e4 x m), by simp; omega, fun m hm e => by subst e; obtain ⟨a, b⟩ := drop_consJ hm; exact e7 _ b rfl, ?_⟩
      conv => lhs; unfold kidsJ
      rw [decide_eq_false z, Bool.false_and, if_neg Bool.false_ne_true, List.nil_append, e6]
theorem jn_end {rs : List Road} {s q : Nat} {w : List Nat} : ∀ (t : List Road) (j : Nat), jnF q j t = [] → kidsJ rs s w q j t = []
  | [], j, _ => rfl
  | r :: t, j, h => by
    unfold jnF at h
    by_cases z : r.one = q
    · rw [if_pos z] at h; cases h
    · rw [if_neg z] at h
      conv => lhs; unfold kidsJ
      rw [decide_eq_false z, Bool.false_and, if_neg Bool.false_ne_true, List.nil_append, jn_end t (j + 1) h]
theorem lm_one {n s g q i : Nat} {rs : List Road} {w : List Nat} {r : Road} {A : Ob} {X : List (List Nat)} (hw : Wy rs s w q) (e : rs[i]? = some r) (er1 : r.one = q) (hwl : w.length ≤ 1000) (hl : X.length ≤ 1000000) :
    l__law_simple_1 [some (.val (netD n rs)), some (.val (.int (s : Nat))), some (.val (.int (g : Nat))), some (.val (.list (joinsD n rs))), some (.loc 0), some (.loc 1), some (.val (wyD w)), some (.val (.int (q : Nat))), some (.val (.tuple (natsD (plW rs s w)))), some (.val (.int (cW rs w : Nat))), some (.val (.int (i : Nat))), some (.val (.int (r.other : Nat))), some (.val (.int (r.cost : Nat))), some (.val (.int (r.time : Nat)))] [.lst (X.map (stJ rs s)), A] = .next [some (.val (netD n rs)), some (.val (.int (s : Nat))), some (.val (.int (g : Nat))), some (.val (.list (joinsD n rs))), some (.loc 0), some (.loc 1), some (.val (wyD w)), some (.val (.int (q : Nat))), some (.val (.tuple (natsD (plW rs s w)))), some (.val (.int (cW rs w : Nat))), some (.val (.int (i : Nat))), some (.val (.int (r.other : Nat))), some (.val (.int (r.cost : Nat))), some (.val (.int (r.time : Nat)))] [.lst ((X ++ if (!(plW rs s w).contains r.other) = true then [w ++ [i]] else []).map (stJ rs s)), A] := by
  have en := v_notInN (ws := plW rs s w) (r := r.other) (h := [.lst (X.map (stJ rs s)), A])
  have er := rdK_of e
  have hw2 : Wy rs s (w ++ [i]) r.other := hw.app ⟨r, e, er1, rfl⟩
  unfold l__law_simple_1
  cases q2 : (plW rs s w).contains r.other with
  | true =>
    rw [q2] at en
    simp [en]
  | false =>
    rw [q2] at en
    have ea := v_addT (a := natsD w) (b := [.int (i : Nat)]) (h := [.lst (X.map (stJ rs s)), A]) (by simp [natsD]; omega)
    have eb := v_addT (a := natsD (plW rs s w)) (b := [.int (r.other : Nat)]) (h := [.lst (X.map (stJ rs s)), A]) (by simp [natsD, plW, oth]; omega)
    have ed : stJ rs s (w ++ [i]) = .tuple [.tuple (natsD w ++ [.int (i : Nat)]), .int (r.other : Nat), .tuple (natsD (plW rs s w) ++ [.int (r.other : Nat)]), .int ((cW rs w : Int) + r.cost)] := by
      unfold stJ
      rw [hw2.endV, plW_app, cW_app]
      have : cW rs [i] = r.cost := by unfold cW; simp [er]
      rw [this]
      have e2 : ((cW rs w + r.cost : Nat) : Int) = (cW rs w : Int) + r.cost := by omega
      rw [e2]
      simp [wyD, natsD, oth, er]
    have ap := v_appO (n := 0) (h := [.lst (X.map (stJ rs s)), A]) (d := stJ rs s (w ++ [i])) (ds := X.map (stJ rs s)) rfl (by simp; omega)
    have et : (tV (cBin gNotIn (eVar 11) (eVar 8))) [some (.val (netD n rs)), some (.val (.int (s : Nat))), some (.val (.int (g : Nat))), some (.val (.list (joinsD n rs))), some (.loc 0), some (.loc 1), some (.val (wyD w)), some (.val (.int (q : Nat))), some (.val (.tuple (natsD (plW rs s w)))), some (.val (.int (cW rs w : Nat))), some (.val (.int (i : Nat))), some (.val (.int (r.other : Nat))), some (.val (.int (r.cost : Nat))), some (.val (.int (r.time : Nat)))] [.lst (X.map (stJ rs s)), A] = .ok true [.lst (X.map (stJ rs s)), A] := by simp [en]
    rw [v_sif, et, v_fl, if_pos rfl, v_expMt (d := .none) (h' := [.lst (X.map (stJ rs s) ++ [stJ rs s (w ++ [i])]), A]) (s := .loc 0) (ss := [.val (stJ rs s (w ++ [i]))]) (ds := X.map (stJ rs s)) (by simp) (by simp) (by rw [ed]; simp [line_s, wyD, ea, eb]) ap]
    simp
theorem lm_for {n s g q : Nat} {rs : List Road} {w : List Nat} {A : Ob} {X : List (List Nat)} {y10 y11 y12 y13 : Option Sl} (hn : NetOk n rs) (hq : q < n) (hw : Wy rs s w q) (hwl : w.length ≤ 1000) (hl : X.length ≤ 500000) :
    Nx (sFor (srcSeq (cBin gIx (eVar 3) (eVar 7))) (.tp [(.nm 10), (.nm 11), (.nm 12), (.nm 13)]) l__law_simple_1 [some (.val (netD n rs)), some (.val (.int (s : Nat))), some (.val (.int (g : Nat))), some (.val (.list (joinsD n rs))), some (.loc 0), some (.loc 1), some (.val (wyD w)), some (.val (.int (q : Nat))), some (.val (.tuple (natsD (plW rs s w)))), some (.val (.int (cW rs w : Nat))), y10, y11, y12, y13] [.lst (X.map (stJ rs s)), A]) fun e h => ∃ y10 y11 y12 y13 : Option Sl, e = [some (.val (netD n rs)), some (.val (.int (s : Nat))), some (.val (.int (g : Nat))), some (.val (.list (joinsD n rs))), some (.loc 0), some (.loc 1), some (.val (wyD w)), some (.val (.int (q : Nat))), some (.val (.tuple (natsD (plW rs s w)))), some (.val (.int (cW rs w : Nat))), y10, y11, y12, y13] ∧ h = [.lst ((X ++ kidW rs s w q).map (stJ rs s)), A] := by
  have h30 := hn.len
  have ej := joinsD_get (rs := rs) hq
  have k0 := kidsJ_is (rs := rs) (s := s) (q := q) (w := w) rs 0 rfl (by simp)
  have k00 : kidTo rs s w q 0 = [] := rfl
  rw [k00, List.nil_append] at k0
  refine (Nx.forR (ds := jnF q 0 rs) (h1 := [.lst (X.map (stJ rs s)), A]) (I := fun rest e hh => ∃ (j : Nat) (todo : List Road) (Y : List (List Nat)) (y10 y11 y12 y13 : Option Sl), rest = jnF q j todo ∧ rs.drop j = todo ∧ Y ++ kidsJ rs s w q j todo = X ++ kidW rs s w q ∧ Y.length + todo.length ≤ 600000 ∧ e = [some (.val (netD n rs)), some (.val (.int (s : Nat))), some (.val (.int (g : Nat))), some (.val (.list (joinsD n rs))), some (.loc 0), some (.loc 1), some (.val (wyD w)), some (.val (.int (q : Nat))), some (.val (.tuple (natsD (plW rs s w)))), some (.val (.int (cW rs w : Nat))), y10, y11, y12, y13] ∧ hh = [.lst (Y.map (stJ rs s)), A]) (by simp [ej]) ⟨0, rs, X, y10, y11, y12, y13, rfl, rfl, by rw [k0], by omega, rfl, rfl⟩ ?_).mono ?_
  · rintro d rest _ _ ⟨j, todo, Y, y10, y11, y12, y13, e, hd, hk, hlen, rfl, rfl⟩
    obtain ⟨i, r, t', _, rfl, e2, rfl, _, hlt, hdr, e6⟩ := jn_next (rs := rs) (s := s) (w := w) todo j e
    obtain ⟨hd2, er⟩ := hdr j hd rfl
    rw [e6, ← List.append_assoc] at hk
    refine ⟨_, by simp [jnD]; rfl, ?_⟩
    refine Nx.of (lm_one (n := n) (g := g) (A := A) (X := Y) hw er e2 hwl (by omega)) ⟨i + 1, t', _, _, _, _, _, rfl, hd2, hk, ?_, rfl, rfl⟩
    rw [List.length_append]
    split <;> simp <;> omega
  · rintro _ _ ⟨j, todo, Y, y10, y11, y12, y13, e, hd, hk, hlen, rfl, rfl⟩
    rw [jn_end todo j e.symm, List.append_nil] at hk
    exact ⟨_, _, _, _, rfl, by rw [hk]⟩
theorem lm_turn {n s g q : Nat} {rs : List Road} {w : List Nat} {F B : List (List Nat)} {y6 y7 y8 y9 y10 y11 y12 y13 : Option Sl} (hn : NetOk n rs) (hq : q < n) (hw : Wy rs s w q) (hwl : w.length ≤ 1000) (hl : B.length ≤ 500000) (hf : F.length ≤ 500000) :
    Nx (l__law_simple_2 [some (.val (netD n rs)), some (.val (.int (s : Nat))), some (.val (.int (g : Nat))), some (.val (.list (joinsD n rs))), some (.loc 0), some (.loc 1), y6, y7, y8, y9, y10, y11, y12, y13] [.lst ((B ++ [w]).map (stJ rs s)), .lst (F.map (rowJ rs))]) fun e h => ∃ y6 y7 y8 y9 y10 y11 y12 y13 : Option Sl, e = [some (.val (netD n rs)), some (.val (.int (s : Nat))), some (.val (.int (g : Nat))), some (.val (.list (joinsD n rs))), some (.loc 0), some (.loc 1), y6, y7, y8, y9, y10, y11, y12, y13] ∧ h = if q = g then [.lst (B.map (stJ rs s)), .lst ((F ++ [w]).map (rowJ rs))] else [.lst ((B ++ kidW rs s w q).map (stJ rs s)), .lst (F.map (rowJ rs))] := by
  unfold l__law_simple_2
  refine Nx.seqEq (e1 := [some (.val (netD n rs)), some (.val (.int (s : Nat))), some (.val (.int (g : Nat))), some (.val (.list (joinsD n rs))), some (.loc 0), some (.loc 1), some (.val (wyD w)), some (.val (.int (q : Nat))), some (.val (.tuple (natsD (plW rs s w)))), some (.val (.int (cW rs w : Nat))), y10, y11, y12, y13]) (h1 := [.lst (B.map (stJ rs s)), .lst (F.map (rowJ rs))]) ?_ ?_
  · have ep := v_popL (h := [.lst ((B ++ [w]).map (stJ rs s)), .lst (F.map (rowJ rs))]) (k := 0) (ds := B.map (stJ rs s)) (d := stJ rs s w) (by simp)
    have e0 := mt0_of (m := mPop) (s := .loc 0) (h := [.lst ((B ++ [w]).map (stJ rs s)), .lst (F.map (rowJ rs))]) (by simp) ep
    rw [v_asg, v_mt0]
    simp only [v_var, List.getElem?_cons_succ, List.getElem?_cons_zero, v_slot, v_bind, e0, v_fl]
    simp [stJ, hw.endV]
  by_cases z : q = g
  · have z' : (q : Int) = g := by omega
    have et : (tV (cBin gEq (eVar 7) (eVar 2))) [some (.val (netD n rs)), some (.val (.int (s : Nat))), some (.val (.int (g : Nat))), some (.val (.list (joinsD n rs))), some (.loc 0), some (.loc 1), some (.val (wyD w)), some (.val (.int (q : Nat))), some (.val (.tuple (natsD (plW rs s w)))), some (.val (.int (cW rs w : Nat))), y10, y11, y12, y13] [.lst (B.map (stJ rs s)), .lst (F.map (rowJ rs))] = .ok true [.lst (B.map (stJ rs s)), .lst (F.map (rowJ rs))] := by simp [z']
    have ap := v_appO (n := 1) (h := [.lst (B.map (stJ rs s)), .lst (F.map (rowJ rs))]) (d := rowJ rs w) (ds := F.map (rowJ rs)) rfl (by simp; omega)
    refine Nx.of (e := [some (.val (netD n rs)), some (.val (.int (s : Nat))), some (.val (.int (g : Nat))), some (.val (.list (joinsD n rs))), some (.loc 0), some (.loc 1), some (.val (wyD w)), some (.val (.int (q : Nat))), some (.val (.tuple (natsD (plW rs s w)))), some (.val (.int (cW rs w : Nat))), y10, y11, y12, y13]) (h := [.lst (B.map (stJ rs s)), .lst (F.map (rowJ rs) ++ [rowJ rs w])]) ?_ ⟨_, _, _, _, _, _, _, _, rfl, by rw [if_pos z]; simp⟩
    rw [v_sif, et, v_fl, if_pos rfl]
    refine v_expMt (d := .none) (s := .loc 1) (ss := [.val (rowJ rs w)]) (ds := F.map (rowJ rs)) (by simp) (by simp) ?_ ap
    simp [line_s]
    rfl
  · have z' : ¬ (q : Int) = g := by omega
    have et : (tV (cBin gEq (eVar 7) (eVar 2))) [some (.val (netD n rs)), some (.val (.int (s : Nat))), some (.val (.int (g : Nat))), some (.val (.list (joinsD n rs))), some (.loc 0), some (.loc 1), some (.val (wyD w)), some (.val (.int (q : Nat))), some (.val (.tuple (natsD (plW rs s w)))), some (.val (.int (cW rs w : Nat))), y10, y11, y12, y13] [.lst (B.map (stJ rs s)), .lst (F.map (rowJ rs))] = .ok false [.lst (B.map (stJ rs s)), .lst (F.map (rowJ rs))] := by simp [z']
    refine Nx.if_f et ((lm_for (g := g) (A := .lst (F.map (rowJ rs))) hn hq hw hwl hl).mono ?_)
    rintro _ _ ⟨y10, y11, y12, y13, rfl, rfl⟩
    exact ⟨_, _, _, _, _, _, _, _, rfl, by rw [if_neg z]⟩
theorem e_lawSimple {n s g : Nat} {rs : List Road} (hn : NetOk n rs) (hr : rs.length ≤ 12) (hs : s < n) : ∃ L, m__law_simple [netD n rs, .int (s : Nat), .int (g : Nat)] [] = .ok (.list (L.map (rowJ rs))) [] ∧ Alls rs s g L ∧ L.length ≤ 2049 := by
  have key := run_ex (fr := false) (io := [false, false, false]) (nl := 11) (p := b__law_simple) (ds := [netD n rs, .int (s : Nat), .int (g : Nat)]) (os := []) (P := fun d h => h = [] ∧ ∃ L, d = .list (L.map (rowJ rs)) ∧ Alls rs s g L ∧ L.length ≤ 2049) ?_
  · obtain ⟨d, h', e, rfl, L, rfl, a⟩ := key
    exact ⟨L, e, a⟩
  have ej := e_joins hn
  have h10 := hn.n2
  have e0 : mkEnv [false, false, false] [netD n rs, .int (s : Nat), .int (g : Nat)] 0 ++ List.replicate 11 none = [some (.val (netD n rs)), some (.val (.int (s : Nat))), some (.val (.int (g : Nat))), none, none, none, none, none, none, none, none, none, none, none] := rfl
  rw [e0]
  unfold b__law_simple
  have st0 : stJ rs s [] = .tuple [.tuple [], .int (s : Nat), .tuple [.int (s : Nat)], .int 0] := by
    simp [stJ, wyD, natsD, plW, oth, cW, endV]
  refine Out.seqEq (e1 := [some (.val (netD n rs)), some (.val (.int (s : Nat))), some (.val (.int (g : Nat))), some (.val (.list (joinsD n rs))), some (.loc 0), some (.loc 1), none, none, none, none, none, none, none, none]) (h1 := [.lst [stJ rs s []], .lst []]) (by rw [st0]; simp [ej, v_new1, line_s]) ?_
  refine Out.seq (A := fun e hh => ∃ (F : List (List Nat)) (y6 y7 y8 y9 y10 y11 y12 y13 : Option Sl), Cov rs s g F [] ∧ F.length ≤ 2049 ∧ e = [some (.val (netD n rs)), some (.val (.int (s : Nat))), some (.val (.int (g : Nat))), some (.val (.list (joinsD n rs))), some (.loc 0), some (.loc 1), y6, y7, y8, y9, y10, y11, y12, y13] ∧ hh = [.lst [], .lst (F.map (rowJ rs))]) ?_ ?_
  · refine Out.while_ 4096 (by omega) (I := fun m e hh => ∃ (F B : List (List Nat)) (y6 y7 y8 y9 y10 y11 y12 y13 : Option Sl), ((F = [] ∧ B = [[]] ∧ m = 4096) ∨ (mu2 rs s B ≤ m ∧ F.length + m ≤ 2049)) ∧ Cov rs s g F B ∧ e = [some (.val (netD n rs)), some (.val (.int (s : Nat))), some (.val (.int (g : Nat))), some (.val (.list (joinsD n rs))), some (.loc 0), some (.loc 1), y6, y7, y8, y9, y10, y11, y12, y13] ∧ hh = [.lst (B.map (stJ rs s)), .lst (F.map (rowJ rs))]) ⟨[], [[]], _, _, _, _, _, _, _, _, .inl ⟨rfl, rfl, rfl⟩, Cov.start, rfl, rfl⟩ ?_
    rintro m _ _ ⟨F, B, y6, y7, y8, y9, y10, y11, y12, y13, hm0, c, rfl, rfl⟩
    have hb : B.length ≤ 4096 := by
      rcases hm0 with ⟨_, rfl, _⟩ | ⟨h1, h2⟩
      · simp
      · have := mu2_len (rs := rs) (s := s) B
        omega
    have hFl : F.length ≤ 4096 := by
      rcases hm0 with ⟨rfl, _, _⟩ | ⟨h1, h2⟩
      · simp
      · omega
    have ne := v_neNilO (h := [.lst (B.map (stJ rs s)), .lst (F.map (rowJ rs))]) (k := 0) (ds := B.map (stJ rs s)) rfl (shp_listB lay_stJ (by decide))
    rcases List.eq_nil_or_concat B with rfl | ⟨B, w, rfl⟩
    · have hF2 : F.length ≤ 2049 := by
        rcases hm0 with ⟨_, z, _⟩ | ⟨h1, h2⟩
        · cases z
        · omega
      refine .inl ⟨?_, F, _, _, _, _, _, _, _, _, c, hF2, rfl, rfl⟩
      simp [line_s] at ne ⊢
      simp [ne]
    · rw [List.concat_eq_append] at *
      obtain ⟨q, hw, nd⟩ := c.ok w (by simp)
      have hwl := GdW.len hn hs ⟨q, hw, nd⟩
      have hq : q < n := hw.lo hn hs q hw.mem
      rw [List.length_append, List.length_singleton] at hb
      have hex : (F = [] ∧ B = [] ∧ w = [] ∧ m = 4096) ∨ (mu2 rs s (B ++ [w]) ≤ m ∧ F.length + m ≤ 2049) := by
        rcases hm0 with ⟨h1, h2, h3⟩ | h
        · refine .inl ⟨h1, ?_, ?_, h3⟩
          · have := congrArg List.length h2
            simp at this
            exact this
          · have := congrArg List.getLast? h2
            simpa using this
        · exact .inr h
      have hpos : 0 < m := by
        rcases hex with ⟨_, _, _, h⟩ | ⟨h1, h2⟩
        · omega
        · rw [mu2_app, mu2_one] at h1
          have := wt_pos (rs := rs) (s := s) (w := w)
          omega
      refine .inr ⟨?_, (if q = g then (if F = [] ∧ B = [] ∧ m = 4096 then 2048 else m - 1) else if F = [] ∧ B = [] ∧ m = 4096 then 2048 else m - 1), ?_, ?_⟩
      · simp [line_s] at ne ⊢
        simp [ne]
      · split <;> split <;> omega
      · refine (Out.of_nx (lm_turn (F := F) (B := B) (g := g) hn hq hw (by omega) (by omega) (by omega))).mono ?_ (fun _ _ z => z)
        rintro _ _ ⟨y6, y7, y8, y9, y10, y11, y12, y13, rfl, rfl⟩
        by_cases z : q = g
        · subst z
          refine ⟨F ++ [w], B, _, _, _, _, _, _, _, _, .inr ?_, c.goal hw, rfl, by rw [if_pos rfl]; rfl⟩
          rw [if_pos rfl]
          rcases hex with ⟨rfl, rfl, rfl, rfl⟩ | ⟨h1, h2⟩
          · rw [if_pos ⟨rfl, rfl, rfl⟩]
            exact ⟨by simp [mu2], by simp⟩
          · have hne : ¬ (F = [] ∧ B = [] ∧ m = 4096) := by omega
            rw [if_neg hne]
            rw [mu2_app, mu2_one] at h1
            have := wt_pos (rs := rs) (s := s) (w := w)
            refine ⟨by omega, ?_⟩
            rw [List.length_append, List.length_singleton]
            omega
        · refine ⟨F, B ++ kidW rs s w q, _, _, _, _, _, _, _, _, .inr ?_, c.step hw z, rfl, by rw [if_neg z]; rfl⟩
          rw [if_neg z]
          rcases hex with ⟨rfl, rfl, rfl, rfl⟩ | ⟨h1, h2⟩
          · rw [if_pos ⟨rfl, rfl, rfl⟩]
            obtain rfl : s = q := hw
            exact ⟨by rw [List.nil_append]; exact mu2_first hr, by simp⟩
          · have hne : ¬ (F = [] ∧ B = [] ∧ m = 4096) := by omega
            rw [if_neg hne]
            have := mu2_step (B := B) hw nd
            exact ⟨by omega, by omega⟩
  · rintro _ _ ⟨F, y6, y7, y8, y9, y10, y11, y12, y13, c, hF, rfl, rfl⟩
    have es := v_sortedJ (h := [.lst [], .lst (F.map (rowJ rs))]) (k := 1) (ps := F.map (kyW rs)) (by rw [List.map_map]; rfl) (by simp; omega)
    have hlen : (ordW rs F).length = F.length := by simp [ordW]
    have ho : (F.map (kyW rs)).mergeSort leW = ordW rs F := rfl
    have hk : ordW rs F = ((ordW rs F).map (·.2)).map (kyW rs) := by
      rw [List.map_map]
      conv => lhs; rw [← List.map_id (ordW rs F)]
      refine List.map_congr_left fun p mp => ?_
      have : p ∈ F.map (kyW rs) := by
        unfold ordW at mp
        exact List.mem_mergeSort.mp mp
      obtain ⟨w, _, rfl⟩ := List.mem_map.mp this
      rfl
    have hd : (ordW rs F).map rowW = ((ordW rs F).map (·.2)).map (rowJ rs) := by
      conv => lhs; rw [hk]
      rw [List.map_map]
      rfl
    rw [ho, hd] at es
    exact Out.ret (s := .val (.list (((ordW rs F).map (·.2)).map (rowJ rs)))) (h := [.lst [], .lst (F.map (rowJ rs))]) (by simp [es]) ⟨_, _, v_outV, rfl, _, rfl, c.alls, by simp; omega⟩
end FL
namespace FL
open PySem PySem.Spec PyProof.Rows L2
theorem e_takeW {s : Dr} {far : Int} (h1 : 0 < far) (h2 : far < 18446744073709551616) : m__law_take [.int far] [s.o] = .ok (.int (s.tk far)) [(s.nx far).o] := by
  have hb := s.hb
  unfold Dr.tk Dr.nx
  by_cases q : 0 < s.a
  · have w : (0 : Int) < s.a := by omega
    rw [if_pos q, if_pos q]
    simp [m__law_take, b__law_take, Dr.o, q, v_fMod h1, v_fDivW h1 h2]
    exact (Int.max_eq_left (Int.ediv_nonneg (Int.natCast_nonneg _) (by omega))).symm
  · have w : ¬ (0 : Int) < s.a := by omega
    rw [if_neg q, if_neg q]
    have e0 : ∀ x : Int, fMod x 2147483647 = some (.int (x % 2147483647)) := fun x => v_fMod (by decide)
    have e1 : ∀ x : Int, fMod x 2147483629 = some (.int (x % 2147483629)) := fun x => v_fMod (by decide)
    have e2 : ∀ x : Int, fMod x 2147483587 = some (.int (x % 2147483587)) := fun x => v_fMod (by decide)
    have e3 : ∀ x : Int, fDiv x 8 = some (.int (x / 8)) := fun x => v_fDiv (by decide) (by decide)
    have e4 : ∀ x : Int, fMul x 48271 = some (.int (x * 48271)) := fun x => v_fMulR (by decide) (by decide)
    have e5 : ∀ x : Int, fMul 39373 x = some (.int (39373 * x)) := fun x => v_fMulL (by decide) (by decide)
    have e6 : ∀ x : Int, fMul 16807 x = some (.int (16807 * x)) := fun x => v_fMulL (by decide) (by decide)
    have e7 : ∀ x y : Int, fMul (x % 2147483647) y = some (.int (x % 2147483647 * y)) := fun x y => v_fMulL (by omega) (by omega)
    have e8 : ∀ x y : Int, fMul (x % 2147483629) y = some (.int (x % 2147483629 * y)) := fun x y => v_fMulL (by omega) (by omega)
    simp [m__law_take, b__law_take, Dr.o, q, e0, e1, e2, e3, e4, e5, e6, e7, e8, v_fMod h1, Dr.x2, Dr.x1, Dr.b1]
    omega
theorem e_take {s : Dr} {far : Int} (h1 : 0 < far) (h2 : far < 1073741824) : m__law_take [.int far] [s.o] = .ok (.int (s.tk far)) [(s.nx far).o] := e_takeW h1 (by omega)
@[simp] theorem c_take {s : Dr} {far : Int} {r : Hs} (h1 : 0 < far) (h2 : far < 1073741824) : callF m__law_take [true, false] false [.loc 0, .val (.int far)] (s.o :: r) = .ok (.val (.int (s.tk far))) ((s.nx far).o :: r) :=
  callF_eq (ns := [0]) (vw := []) rfl rfl (.inl rfl) (e_take h1 h2) (.inl rfl)
def stOf (c : Int) : Dr := ⟨(c - 1000000000000000000).toNat, (c % 2147483647).toNat, by omega⟩
theorem e_cell {ns : List Int} {k : Nat} : m__law_cell_at [.list (ns.map .int), .int k] [] = .ok (.int (ns[k]?.getD 0)) [] := by
  by_cases q : k < ns.length
  · have w : (k : Int) < ns.length := by omega
    simp [m__law_cell_at, b__law_cell_at, q]
  · have w : ¬ (k : Int) < ns.length := by omega
    simp [m__law_cell_at, b__law_cell_at, q]
theorem e_state {ns : List Int} {k : Nat} : m__law_state [.list (ns.map .int), .int k] [] = .ok (.list [.int (stOf (ns[k]?.getD 0)).a, .int (stOf (ns[k]?.getD 0)).b]) [] := by
  have e0 : ∀ x : Int, fMod x 2147483647 = some (.int (x % 2147483647)) := fun x => v_fMod (by decide)
  have e1 : fPow 10 18 = some (.int 1000000000000000000) := by unfold fPow; rw [if_pos (by decide)]; rfl
  simp [m__law_state, b__law_state, e_cell, e0, e1, v_new1]
  rw [v_outR rfl rfl]
  simp [stOf]
  omega
theorem c_state {ns : List Int} {k : Nat} {h : Hs} : callN m__law_state [false, false] [.val (.list (ns.map .int)), .val (.int k)] h = .ok (.loc h.length) (h ++ [(stOf (ns[k]?.getD 0)).o]) := by
  rw [callN_eq (ns := []) (vw := []) rfl rfl e_state rfl]
  rfl
end FL
namespace FL
open PySem PySem.Spec PyProof.Rows L2
theorem fin_road {n : Nat} {s' : Dr} {rs : List Road} {x0 x1 x2 x3 x4 x5 : Option Sl} {a b c d : Int} (ha : 0 ≤ a ∧ a < n) (hb : 0 ≤ b ∧ b < n ∧ a ≠ b) (hc : 1 ≤ c ∧ c ≤ 99) (hd : 0 ≤ d ∧ d ≤ 99) :
    ∃ (r : Road), r.Ok n ∧ ∃ (s'' : Dr) (z6 z7 z8 z9 : PyData), Fl.next [x0, x1, x2, x3, x4, x5, some (.val (.int a)), some (.val (.int b)), some (.val (.int c)), some (.val (.int d))] [s'.o, .lst (rs.map Road.d ++ [.tuple [.int a, .int b, .int c, .int d]])]
      = .next [x0, x1, x2, x3, x4, x5, some (.val z6), some (.val z7), some (.val z8), some (.val z9)] [s''.o, .lst ((rs ++ [r]).map Road.d)] := by
  refine ⟨⟨a.toNat, b.toNat, c.toNat, d.toNat⟩, ⟨?_, ?_, ?_, ?_, ?_, ?_⟩, s', .int a, .int b, .int c, .int d, ?_⟩
  · show a.toNat < n; omega
  · show b.toNat < n; omega
  · show a.toNat ≠ b.toNat; omega
  · show 1 ≤ c.toNat; omega
  · show c.toNat ≤ 99; omega
  · show d.toNat ≤ 99; omega
  · rw [List.map_append]
    simp only [List.map_cons, List.map_nil, Road.d]
    rw [Int.toNat_of_nonneg ha.1, Int.toNat_of_nonneg hb.1, Int.toNat_of_nonneg (by omega), Int.toNat_of_nonneg hd.1]
theorem e_drawn {n t : Nat} {s : Dr} {rs : List Road} {x1 x2 y6 y7 y8 y9 : Option Sl} (h1 : 2 ≤ n) (h2 : n ≤ 10) (hl : rs.length < 100000) :
    ∃ (r : Road), r.Ok n ∧ ∃ (s' : Dr) (z6 z7 z8 z9 : PyData), l__law_net_1 [some (.loc 0), x1, x2, some (.val (.int n)), some (.loc 1), some (.val (.int t)), y6, y7, y8, y9] [s.o, .lst (rs.map Road.d)]
      = .next [some (.loc 0), x1, x2, some (.val (.int n)), some (.loc 1), some (.val (.int t)), some (.val z6), some (.val z7), some (.val z8), some (.val z9)] [s'.o, .lst ((rs ++ [r]).map Road.d)] := by
  have w1 : (0 : Int) < n := by omega
  have w2 : (n : Int) < 1073741824 := by omega
  have w3 : (0 : Int) < (n : Int) - 1 := by omega
  have w4 : (n : Int) - 1 < 1073741824 := by omega
  have w5 : rs.length < 16777216 := by omega
  generalize hX : l__law_net_1 [some (.loc 0), x1, x2, some (.val (.int n)), some (.loc 1), some (.val (.int t)), y6, y7, y8, y9] [s.o, .lst (rs.map Road.d)] = X
  simp only [l__law_net_1] at hX
  simp [c_take w1 w2, c_take w3 w4, line_s, v_fMod w1, w5] at hX
  subst hX
  have A : ∀ (p : Prop) [Decidable p], 0 ≤ (if p then s.tk n else min (t : Int) (n - 1)) ∧ (if p then s.tk n else min (t : Int) (n - 1)) < n := by
    intro p _
    have := tk_nn (s := s) w1
    have := tk_lt (s := s) w1
    split <;> omega
  refine fin_road (A _) ?_ ?_ ?_
  · obtain ⟨a1, a2⟩ := A (Dr.tk (s.nx n) 2 = 0)
    rw [Int.add_assoc]
    have B : ∀ (p : Prop) [Decidable p], 1 ≤ 1 + (if p then (0 : Int) else ((s.nx n).nx 2).tk (n - 1)) ∧ 1 + (if p then (0 : Int) else ((s.nx n).nx 2).tk (n - 1)) < n := by
      intro p _
      have := tk_nn (s := (s.nx n).nx 2) w3
      have := tk_lt (s := (s.nx n).nx 2) w3
      split <;> omega
    exact mod_wrap a1 a2 (B _).1 (B _).2
  · generalize ((((s.nx ↑n).nx 2).nx (↑n - 1)).nx 2) = u
    have := tk_nn (s := u) (show (0 : Int) < 4 by decide)
    have := tk_lt (s := u) (show (0 : Int) < 4 by decide)
    have := tk_nn (s := u.nx 4) (show (0 : Int) < 99 by decide)
    have := tk_lt (s := u.nx 4) (show (0 : Int) < 99 by decide)
    split <;> (try split) <;> omega
  · generalize (((((((s.nx ↑n).nx 2).nx (↑n - 1)).nx 2).nx 4).nx 99).nx 3) = u
    have := tk_nn (s := u) (show (0 : Int) < 4 by decide)
    have := tk_lt (s := u) (show (0 : Int) < 4 by decide)
    have := tk_nn (s := u.nx 4) (show (0 : Int) < 100 by decide)
    have := tk_lt (s := u.nx 4) (show (0 : Int) < 100 by decide)
    split <;> (try split) <;> omega
theorem e_drawns {n : Nat} {x1 x2 : Option Sl} (hx : cutE 2 [x1, x2] = [x1, x2]) (h1 : 2 ≤ n) (h2 : n ≤ 10) : ∀ (ts : List Nat) (s : Dr) (rs : List Road) (y5 y6 y7 y8 y9 : Option Sl), (∀ r ∈ rs, r.Ok n) → rs.length + ts.length < 100000 →
    ∃ (rs' : List Road) (s' : Dr) (z5 z6 z7 z8 z9 : Option Sl), (∀ r ∈ rs', r.Ok n) ∧ rs'.length = rs.length + ts.length ∧
      loopF (.nm 5) l__law_net_1 2 (ts.map fun t : Nat => .int t) [some (.loc 0), x1, x2, some (.val (.int n)), some (.loc 1), y5, y6, y7, y8, y9] [s.o, .lst (rs.map Road.d)]
      = .next [some (.loc 0), x1, x2, some (.val (.int n)), some (.loc 1), z5, z6, z7, z8, z9] [s'.o, .lst (rs'.map Road.d)]
  | [], s, rs, y5, y6, y7, y8, y9, ho, _ => ⟨rs, s, y5, y6, y7, y8, y9, ho, by simp, rfl⟩
  | t :: ts, s, rs, y5, y6, y7, y8, y9, ho, hl => by
    have hl' : rs.length + ts.length + 1 < 100000 := hl
    obtain ⟨r, hr, s1, u6, u7, u8, u9, e⟩ := e_drawn (t := t) (s := s) (rs := rs) (x1 := x1) (x2 := x2) (y6 := y6) (y7 := y7) (y8 := y8) (y9 := y9) h1 h2 (by omega)
    obtain ⟨rs', s', z5, z6, z7, z8, z9, h3, h4, e2⟩ := e_drawns hx h1 h2 ts s1 (rs ++ [r]) (some (.val (.int t))) (some (.val u6)) (some (.val u7)) (some (.val u8)) (some (.val u9)) (fun x m => by
      rcases List.mem_append.mp m with m | m
      · exact ho x m
      · rw [List.mem_singleton.mp m]; exact hr) (by simp; omega)
    refine ⟨rs', s', z5, z6, z7, z8, z9, h3, by rw [h4]; simp; omega, ?_⟩
    rw [← e2, List.map_cons]
    conv => lhs; unfold loopF
    simp only [v_putN, List.set_cons_succ, List.set_cons_zero]
    rw [e]
    simp only [cutE, List.map_cons, List.map_nil, List.cons.injEq] at hx
    simp only [List.take_succ_cons, List.take_zero, v_cutV, v_cutO, v_cutN]
    have e3 : cutE 2 (x1 :: x2 :: some (.val (.int n)) :: some (.loc 1) :: some (.val (.int t)) :: some (.val u6) :: some (.val u7) :: some (.val u8) :: [some (.val u9)]) = x1 :: x2 :: some (.val (.int n)) :: some (.loc 1) :: some (.val (.int t)) :: some (.val u6) :: some (.val u7) :: some (.val u8) :: [some (.val u9)] := by
      simp only [cutE, List.map_cons, List.map_nil, List.cons.injEq]
      obtain ⟨a1, a2, _⟩ := hx
      simp [a1, a2]
    rw [e3]
    rfl
theorem c_net {s : Dr} {a b : Nat} {r : Hs} (ha : 1 ≤ a ∧ a ≤ 10) (hb : b ≤ 30) : ∃ (n : Nat) (rs : List Road) (s' : Dr), NetOk n rs ∧ n ≤ a ∧ rs.length ≤ b ∧ callF m__law_net [true, false, false] false [.loc 0, .val (.int a), .val (.int b)] (s.o :: r) = .ok (.val (netD n rs)) (s'.o :: r) := by
  have w1 : (0 : Int) < a := by omega
  have w2 : (a : Int) < 1073741824 := by omega
  have w3 : (0 : Int) < (b : Int) + 1 := by omega
  have w4 : (b : Int) + 1 < 1073741824 := by omega
  have t1 := tk_nn (s := s) w1
  have t2 := tk_lt (s := s) w1
  obtain ⟨n, hn⟩ : ∃ n : Nat, 1 + s.tk a = n := ⟨(1 + s.tk a).toNat, by omega⟩
  have t3 := tk_nn (s := s.nx a) w3
  have t4 := tk_lt (s := s.nx a) w3
  obtain ⟨m, hm⟩ : ∃ m : Nat, (s.nx a).tk (b + 1) * (if (1 : Int) < n then 1 else 0) = m := ⟨((s.nx a).tk (b + 1) * (if (1 : Int) < n then 1 else 0)).toNat, by split <;> omega⟩
  have hm2 : m ≤ b := by
    split at hm <;> omega
  have hm3 : n = 1 → m = 0 := fun e => by
    rw [if_neg (by omega)] at hm
    omega
  have f1 : ∀ j : Int, fMul ((s.nx a).tk (b + 1)) j = some (.int ((s.nx a).tk (b + 1) * j)) := fun j => v_fMulL (by omega) (by omega)
  obtain ⟨rs, s', z5, z6, z7, z8, z9, q1, q2, e⟩ : ∃ (rs' : List Road) (s' : Dr) (z5 z6 z7 z8 z9 : Option Sl), (∀ r ∈ rs', r.Ok n) ∧ rs'.length = m ∧
      loopF (.nm 5) l__law_net_1 2 ((List.range m).map fun t : Nat => .int t) [some (.loc 0), some (.val (.int a)), some (.val (.int b)), some (.val (.int n)), some (.loc 1), none, none, none, none, none] [((s.nx a).nx (b + 1)).o, .lst []]
      = .next [some (.loc 0), some (.val (.int a)), some (.val (.int b)), some (.val (.int n)), some (.loc 1), z5, z6, z7, z8, z9] [s'.o, .lst (rs'.map Road.d)] := by
    by_cases hn1 : n = 1
    · rw [hm3 hn1]
      exact ⟨[], _, none, none, none, none, none, by simp, rfl, rfl⟩
    · have := e_drawns (n := n) (x1 := some (.val (.int a))) (x2 := some (.val (.int b))) (by simp) (by omega) (by omega) (List.range m) ((s.nx a).nx (b + 1)) [] none none none none none (by simp) (by simp; omega)
      simpa using this
  refine ⟨n, rs, s', ⟨by omega, by omega, by omega, q1⟩, by omega, by omega, ?_⟩
  refine callF_eq (ns := [0]) (vw := []) (os := [s.o]) (os' := [s'.o]) (ds := [.int a, .int b]) rfl rfl (.inl rfl) ?_ (.inl rfl)
  simp [m__law_net, b__law_net, c_take w1 w2, c_take w3 w4, v_new1, hn, f1, hm]
  rw [v_rng1 (by omega) (by omega)]
  simp [upTo]
  rw [e]
  simp [line_s, netD]
end FL
namespace FL
open PySem PySem.Spec PyProof.Rows L2
theorem c_ends {n : Nat} {rs : List Road} {s : Dr} {r : Hs} (h : NetOk n rs) : ∃ (a b : Nat) (s' : Dr), a < n ∧ b < n ∧ callF m__law_ends [true, false] false [.loc 0, .val (netD n rs)] (s.o :: r) = .ok (.val (.tuple [.int a, .int b])) (s'.o :: r) := by
  have h1 := h.n1
  have h2 := h.n2
  have w1 : (0 : Int) < n := by omega
  have w2 : (n : Int) < 1073741824 := by omega
  have t1 := tk_nn (s := s) w1
  have t2 := tk_lt (s := s) w1
  have t3 := tk_nn (s := s.nx n) w1
  have t4 := tk_lt (s := s.nx n) w1
  have t5 := tk_nn (s := (s.nx n).nx n) w1
  have t6 := tk_lt (s := (s.nx n).nx n) w1
  obtain ⟨a, ha⟩ : ∃ a : Nat, s.tk n = a := ⟨(s.tk n).toNat, by omega⟩
  obtain ⟨b, hb⟩ : ∃ b : Nat, (if (((s.nx n).nx n).nx n).tk 3 = 0 then s.tk n else if (((s.nx n).nx n).nx n).tk 3 = 1 then (s.nx n).tk n else ((s.nx n).nx n).tk n) = b := ⟨(if (((s.nx n).nx n).nx n).tk 3 = 0 then s.tk n else if (((s.nx n).nx n).nx n).tk 3 = 1 then (s.nx n).tk n else ((s.nx n).nx n).tk n).toNat, by split <;> (try split) <;> omega⟩
  refine ⟨a, b, ((((s.nx n).nx n).nx n).nx 3), by omega, by split at hb <;> (try split at hb) <;> omega, ?_⟩
  refine callF_eq (ns := [0]) (vw := []) (os := [s.o]) (os' := [((((s.nx n).nx n).nx n).nx 3).o]) (ds := [netD n rs]) rfl rfl (.inl rfl) ?_ (.inl rfl)
  simp [m__law_ends, b__law_ends, netD, c_take w1 w2, line_s]
  rw [hb, ha]
  simp
end FL
namespace FL
open PySem PySem.Spec PyProof.Rows L2 PySem.W
def prN (rs : List Road) (w : List Nat) : Nat × Nat := (cW rs w, tmW rs w)
def prI (p : Nat × Nat) : List Int := [(p.1 : Int), (p.2 : Int)]
theorem prI_inj {p q : Nat × Nat} : prI p = prI q ↔ p = q := by
  constructor
  · intro h
    unfold prI at h
    rw [List.cons.injEq, List.cons.injEq] at h
    exact Prod.ext (by omega) (by omega)
  · intro h
    rw [h]
def frQ (rs : List Road) (w : List Nat) : FrR := (prN rs w, w)
def kvF (P : List FrR) : List (List Int × PyData) := P.map fun p => (prI p.1, wyD p.2)
/-- of each pair the first of the ways so far -/
structure Fst (rs : List Road) (M : List (List Nat)) (P : List FrR) : Prop where
  sub : ∀ p ∈ P, p.2 ∈ M ∧ p.1 = prN rs p.2
  nd : P.Pairwise fun a b => a.1 ≠ b.1
  low : ∀ w ∈ M, ∃ p ∈ P, p.1 = prN rs w ∧ inW p.2 ≤ inW w
theorem pw_inj {α β : Type} {f : α → β} : ∀ {l : List α} {a b : α}, l.Pairwise (fun a b => f a ≠ f b) → a ∈ l → b ∈ l → f a = f b → a = b
  | [], _, _, _, m, _, _ => nomatch m
  | x :: l, a, b, h, ma, mb, e => by
    obtain ⟨h1, h2⟩ := List.pairwise_cons.mp h
    rcases List.mem_cons.mp ma with p | p
    · rcases List.mem_cons.mp mb with q | q
      · rw [p, q]
      · exact absurd (by rw [← p]; exact e) (h1 b q)
    · rcases List.mem_cons.mp mb with q | q
      · exact absurd (by rw [← q]; exact e.symm) (h1 a p)
      · exact pw_inj h2 p q e
theorem look_in {P : List FrR} {p : FrR} (nd : P.Pairwise fun a b => a.1 ≠ b.1) (m : p ∈ P) : lookQ (kvF P) (prI p.1) = some (wyD p.2) := by
  unfold lookQ kvF
  rw [List.find?_map, Option.map_map]
  cases e : P.find? ((fun q : List Int × PyData => decide (q.1 = prI p.1)) ∘ fun p : FrR => (prI p.1, wyD p.2)) with
  | none =>
    have := List.find?_eq_none.mp e p m
    simp at this
  | some q =>
    have h1 := List.find?_some e
    have h2 := List.mem_of_find?_eq_some e
    have h1 : prI q.1 = prI p.1 := of_decide_eq_true h1
    rw [pw_inj nd h2 m (prI_inj.mp h1)]
    rfl
theorem look_no {P : List FrR} {k : Nat × Nat} (h : ∀ p ∈ P, p.1 ≠ k) : lookQ (kvF P) (prI k) = none := by
  unfold lookQ kvF
  rw [List.find?_map, Option.map_map, List.find?_eq_none.mpr fun p m => ?_]
  · rfl
  · have := h p m
    show ¬ decide (prI p.1 = prI k) = true
    rw [decide_eq_true_eq, prI_inj]
    exact this
theorem put_in {P : List FrR} {p : FrR} (nd : P.Pairwise fun a b => a.1 ≠ b.1) (m : p ∈ P) : putQ (kvF P) (prI p.1) (wyD p.2) = kvF P := by
  unfold putQ
  have ea : ((kvF P).any fun q => decide (q.1 = prI p.1)) = true := List.any_eq_true.mpr ⟨(prI p.1, wyD p.2), List.mem_map.mpr ⟨p, m, rfl⟩, decide_eq_true rfl⟩
  rw [if_pos ea]
  have : (kvF P).map (fun q => if q.1 = prI p.1 then (q.1, wyD p.2) else q) = (kvF P).map id := List.map_congr_left fun q mq => by
    obtain ⟨r, mr, rfl⟩ := List.mem_map.mp mq
    by_cases e : prI r.1 = prI p.1
    · rw [if_pos e, pw_inj nd mr m (prI_inj.mp e)]
      rfl
    · rw [if_neg e]
      rfl
  rw [this, List.map_id]
theorem put_no {P : List FrR} {p : FrR} (h : ∀ q ∈ P, q.1 ≠ p.1) : putQ (kvF P) (prI p.1) (wyD p.2) = kvF (P ++ [p]) := by
  unfold putQ
  rw [if_neg]
  · unfold kvF
    rw [List.map_append]
    rfl
  · intro z
    obtain ⟨q, mq, e⟩ := List.any_eq_true.mp z
    obtain ⟨r, mr, rfl⟩ := List.mem_map.mp mq
    exact h r mr (prI_inj.mp (of_decide_eq_true e))
theorem dataLt_wy (a b : List Nat) : dataLt (wyD a) (wyD b) = decide (inW a < inW b) := by
  unfold wyD
  rw [natsD_in, natsD_in, dataLt_tuple]
  exact dataLt_ints _ _
theorem min_wy {a b : List Nat} (h : inW a ≤ inW b) : minD (wyD a) [wyD b] = wyD a := by
  show (if dataLt (wyD b) (wyD a) = true then wyD b else wyD a) = _
  rw [dataLt_wy, decide_eq_false (List.not_lt.mpr h), if_neg Bool.false_ne_true]
theorem minB_wy (a b : List Nat) : minB [wyD a, wyD b] = true := by
  have al : ∀ x y : List Nat, alike (wyD x) (wyD y) = true := fun x y => alike_nats x y
  have dp : ∀ x : List Nat, (wyD x).depth ≤ 1 := fun x => by
    have := depth_ints (inW x)
    rw [← natsD_in] at this
    simp [wyD, PyData.depth, this]
  have d1 := dp a
  have d2 := dp b
  have n1 : nonB (wyD a) = false := rfl
  have n2 : nonB (wyD b) = false := rfl
  unfold minB
  simp [al, n1, n2, PyData.depthAll, PyData.hasDictAll, (no_wy a).2, (no_wy b).2]
  omega
/-- one way more -/
theorem Fst.step {rs : List Road} {M : List (List Nat)} {P : List FrR} {w : List Nat} (f : Fst rs M P) (h : ∀ v ∈ M, leW (kyW rs v) (kyW rs w) = true) :
    ∃ P', Fst rs (M ++ [w]) P' ∧ minB [(lookQ (kvF P) (prI (prN rs w))).getD (wyD w), wyD w] = true ∧ putQ (kvF P) (prI (prN rs w)) (minD ((lookQ (kvF P) (prI (prN rs w))).getD (wyD w)) [wyD w]) = kvF P' ∧ P'.length ≤ P.length + 1 := by
  by_cases q : ∃ p ∈ P, p.1 = prN rs w
  · obtain ⟨p, mp, e⟩ := q
    obtain ⟨pm, pe⟩ := f.sub p mp
    have hl := h p.2 pm
    have hi : inW p.2 ≤ inW w := by
      unfold leW kyW at hl
      rw [decide_eq_true_eq] at hl
      have : cW rs p.2 = cW rs w := (congrArg Prod.fst (pe.symm.trans e) : _)
      rcases hl with hl | hl
      · dsimp only at hl
        omega
      · exact hl.2
    rw [← e, look_in f.nd mp]
    refine ⟨P, ⟨fun r mr => ⟨List.mem_append_left _ (f.sub r mr).1, (f.sub r mr).2⟩, f.nd, fun v mv => ?_⟩, minB_wy _ _, ?_, Nat.le_succ _⟩
    · rcases List.mem_append.mp mv with mv | mv
      · exact f.low v mv
      · rw [List.mem_singleton.mp mv]
        exact ⟨p, mp, e, hi⟩
    · show putQ _ _ (minD (wyD p.2) [wyD w]) = _
      rw [min_wy hi, put_in f.nd mp]
  · have no : ∀ p ∈ P, p.1 ≠ prN rs w := fun p mp e => q ⟨p, mp, e⟩
    rw [look_no no]
    refine ⟨P ++ [frQ rs w], ⟨fun r mr => ?_, List.pairwise_append.mpr ⟨f.nd, List.pairwise_singleton _ _, fun a ma b mb => ?_⟩, fun v mv => ?_⟩, minB_wy _ _, ?_, by simp⟩
    · rcases List.mem_append.mp mr with mr | mr
      · exact ⟨List.mem_append_left _ (f.sub r mr).1, (f.sub r mr).2⟩
      · rw [List.mem_singleton.mp mr]
        exact ⟨List.mem_append_right _ (List.mem_singleton.mpr rfl), rfl⟩
    · rw [List.mem_singleton.mp mb]
      exact no a ma
    · rcases List.mem_append.mp mv with mv | mv
      · obtain ⟨p, mp, r⟩ := f.low v mv
        exact ⟨p, List.mem_append_left _ mp, r⟩
      · rw [List.mem_singleton.mp mv]
        exact ⟨frQ rs w, List.mem_append_right _ (List.mem_singleton.mpr rfl), rfl, List.le_refl _⟩
    · show putQ _ _ (minD (wyD w) [wyD w]) = _
      rw [min_wy (List.le_refl _)]
      exact put_no (p := frQ rs w) no
/-- no other pair is as low -/
def undB (P : List FrR) (k : Nat × Nat) : Bool := (P.filter fun p => !decide (p.1 = k) && (decide (p.1.1 ≤ k.1) && decide (p.1.2 ≤ k.2))).isEmpty
theorem und_iff {P : List FrR} {k : Nat × Nat} : undB P k = true ↔ ∀ p ∈ P, p.1.1 ≤ k.1 → p.1.2 ≤ k.2 → p.1 = k := by
  unfold undB
  rw [List.isEmpty_iff, List.filter_eq_nil_iff]
  constructor
  · intro h p m a b
    have := h p m
    rw [Bool.and_eq_true, Bool.and_eq_true, Bool.not_eq_true', decide_eq_false_iff_not, decide_eq_true_eq, decide_eq_true_eq] at this
    exact Classical.byContradiction fun z => this ⟨z, a, b⟩
  · intro h p m z
    rw [Bool.and_eq_true, Bool.and_eq_true, Bool.not_eq_true', decide_eq_false_iff_not, decide_eq_true_eq, decide_eq_true_eq] at z
    exact z.1 (h p m z.2.1 z.2.2)
theorem up_eqK {α : Type} (k : α → Nat) : ∀ {l m : List α}, (l.Pairwise fun a b => k a < k b) → (m.Pairwise fun a b => k a < k b) → (∀ x, x ∈ l ↔ x ∈ m) → l = m
  | [], [], _, _, _ => rfl
  | [], y :: m, _, _, h => by have := (h y).mpr List.mem_cons_self; cases this
  | x :: l, [], _, _, h => by have := (h x).mp List.mem_cons_self; cases this
  | x :: l, y :: m, h1, h2, h => by
    obtain ⟨a1, b1⟩ := List.pairwise_cons.mp h1
    obtain ⟨a2, b2⟩ := List.pairwise_cons.mp h2
    have e : x = y := by
      rcases List.mem_cons.mp ((h x).mp List.mem_cons_self) with z | z
      · exact z
      · rcases List.mem_cons.mp ((h y).mpr List.mem_cons_self) with w | w
        · exact w.symm
        · have := a2 x z
          have := a1 y w
          omega
    subst e
    congr 1
    refine up_eqK k b1 b2 fun z => ⟨fun m1 => ?_, fun m1 => ?_⟩
    · rcases List.mem_cons.mp ((h z).mp (List.mem_cons_of_mem _ m1)) with e | e
      · subst e
        have := a1 z m1
        omega
      · exact e
    · rcases List.mem_cons.mp ((h z).mpr (List.mem_cons_of_mem _ m1)) with e | e
      · subst e
        have := a2 z m1
        omega
      · exact e
/-- pairs put in order -/
def lePr (a b : FrR) : Bool := decide (a.1.1 < b.1.1 ∨ (a.1.1 = b.1.1 ∧ a.1.2 ≤ b.1.2))
theorem lePr_tr (a b c : FrR) (h1 : lePr a b = true) (h2 : lePr b c = true) : lePr a c = true := by
  unfold lePr at *
  simp only [decide_eq_true_eq] at *
  omega
theorem lePr_tot (a b : FrR) : (lePr a b || lePr b a) = true := by
  unfold lePr
  simp only [Bool.or_eq_true, decide_eq_true_eq]
  omega
theorem dataLe_pr (a b : FrR) : dataLe false id (tupI (prI a.1)) (tupI (prI b.1)) = lePr a b := by
  have e : dataLt (tupI (prI b.1)) (tupI (prI a.1)) = decide (prI b.1 < prI a.1) := by
    unfold tupI
    rw [dataLt_tuple]
    exact dataLt_ints _ _
  show (!dataLt (tupI (prI b.1)) (tupI (prI a.1))) = _
  rw [e]
  unfold lePr prI
  by_cases q : ([(b.1.1 : Int), (b.1.2 : Int)] < [(a.1.1 : Int), (a.1.2 : Int)])
  · rw [decide_eq_true q]
    have : b.1.1 < a.1.1 ∨ (b.1.1 = a.1.1 ∧ b.1.2 < a.1.2) := by
      rw [List.cons_lt_cons_iff, List.cons_lt_cons_iff] at q
      have nn : ¬ (([] : List Int) < []) := List.lt_irrefl _
      simp only [nn, and_false, or_false] at q
      omega
    symm
    rw [Bool.not_true, decide_eq_false_iff_not]
    omega
  · rw [decide_eq_false q]
    have : ¬ (b.1.1 < a.1.1 ∨ (b.1.1 = a.1.1 ∧ b.1.2 < a.1.2)) := fun z => q (by
      rw [List.cons_lt_cons_iff, List.cons_lt_cons_iff]
      rcases z with z | z
      · exact .inl (by omega)
      · exact .inr ⟨by omega, .inl (by omega)⟩)
    symm
    rw [Bool.not_false, decide_eq_true_eq]
    omega
theorem srt_pr (P : List FrR) : srtD (P.map fun p => tupI (prI p.1)) = (P.mergeSort lePr).map fun p => tupI (prI p.1) := by
  unfold srtD
  exact (List.map_mergeSort (r := lePr) (s := dataLe false id) (f := fun p : FrR => tupI (prI p.1)) (l := P) (fun a _ b _ => (dataLe_pr a b).symm)).symm
/-- what is found among all simple ways is the front -/
theorem found_is {s g : Nat} {rs : List Road} {FR P : List FrR} {L : List (List Nat)} (a : Alls rs s g L) (hF : IsFr rs s g FR) (f : Fst rs L P) : (P.mergeSort lePr).filter (fun p => undB P p.1) = FR := by
  have pm := List.mergeSort_perm P lePr
  have ms : ∀ p, p ∈ P.mergeSort lePr ↔ p ∈ P := fun p => List.mem_mergeSort
  have o1 : (P.mergeSort lePr).Pairwise fun a b => lePr a b = true := List.pairwise_mergeSort lePr_tr lePr_tot P
  have o2 : (P.mergeSort lePr).Pairwise fun a b => a.1 ≠ b.1 := (pm.pairwise_iff (fun h e => h e.symm)).mpr f.nd
  have of_ : ∀ p ∈ P, p.2 ∈ L ∧ SW rs s g p.2 ∧ cW rs p.2 = p.1.1 ∧ tmW rs p.2 = p.1.2 := fun p mp => by
    obtain ⟨h1, h2⟩ := f.sub p mp
    exact ⟨h1, (a.iff _).mp h1, by rw [h2]; rfl, by rw [h2]; rfl⟩
  have of_F : ∀ q ∈ FR, ∃ p ∈ P, p = q := fun q mq => by
    obtain ⟨h1, h2, h3, h4⟩ := hF.way q mq
    obtain ⟨p, mp, e, lo⟩ := f.low q.2 ((a.iff _).mpr h1)
    obtain ⟨p1, p2, p3, p4⟩ := of_ p mp
    have e1 : p.1 = q.1 := by
      rw [e]
      exact Prod.ext h2 h3
    refine ⟨p, mp, Prod.ext e1 (inW_inj (List.le_antisymm lo (h4 p.2 p2.1 (by rw [p3, e1]) (by rw [p4, e1]))))⟩
  refine up_eqK (fun p : FrR => p.1.1) ?_ (hF.ord.imp fun h => h.1) fun x => ?_
  · have o3 := (o1.and o2).imp_of_mem (S := fun x y : FrR => undB P y.1 = true → x.1.1 < y.1.1) (fun {x y} mx my h u => by
      obtain ⟨h1, h2⟩ := h
      unfold lePr at h1
      rw [decide_eq_true_eq] at h1
      rcases h1 with h1 | h1
      · exact h1
      · exact absurd (und_iff.mp u x ((ms x).mp mx) (by omega) (by omega)) h2)
    exact (List.Pairwise.filter _ o3).imp_of_mem fun {x y} _ my h => h (List.mem_filter.mp my).2
  · rw [List.mem_filter, ms, und_iff]
    constructor
    · rintro ⟨mp, und⟩
      obtain ⟨_, p2, p3, p4⟩ := of_ x mp
      obtain ⟨q, mq, q1, q2⟩ := hF.cov x.2 p2.1
      obtain ⟨p, mp', rfl⟩ := of_F q mq
      have e := und p mp' (by omega) (by omega)
      have : p = x := pw_inj (f := fun p : FrR => p.1) f.nd mp' mp e
      rw [← this]
      exact mq
    · intro mq
      obtain ⟨p, mp, rfl⟩ := of_F x mq
      refine ⟨mp, fun u mu h1 h2 => ?_⟩
      obtain ⟨_, u2, u3, u4⟩ := of_ u mu
      obtain ⟨r, mr, r1, r2⟩ := hF.cov u.2 u2.1
      have o : (FR.map (·.1)).Pairwise fun a b => a.1 < b.1 ∧ b.2 < a.2 := List.pairwise_map.mpr hF.ord
      have e := ord_eq o (List.mem_map.mpr ⟨r, mr, rfl⟩) (List.mem_map.mpr ⟨p, mq, rfl⟩) (by omega) (by omega)
      have e1 : r.1.1 = p.1.1 := by rw [e]
      have e2 : r.1.2 = p.1.2 := by rw [e]
      exact Prod.ext (by omega) (by omega)
theorem isFr_uniq {s g : Nat} {rs : List Road} {FR FT : List FrR} (f : IsFr rs s g FR) (h : IsFr rs s g FT) : FR = FT := by
  have key : ∀ {A B : List FrR}, IsFr rs s g A → IsFr rs s g B → ∀ x ∈ A, x ∈ B := fun {A B} f h x m => by
    obtain ⟨x1, x2, x3, x4⟩ := f.way x m
    have m1 : (x.1.1, x.1.2) ∈ B.map (·.1) := (fr_mem h).mpr ((fr_mem f).mp (List.mem_map.mpr ⟨x, m, rfl⟩))
    obtain ⟨y, my, e⟩ := List.mem_map.mp m1
    have e : y.1 = x.1 := e
    obtain ⟨y1, y2, y3, y4⟩ := h.way y my
    have : x = y := Prod.ext e.symm (inW_inj (List.le_antisymm (x4 y.2 y1.1 (by rw [y2, e]) (by rw [y3, e])) (y4 x.2 x1.1 (by rw [x2, e]) (by rw [x3, e]))))
    rw [this]
    exact my
  exact up_eqK (fun p : FrR => p.1.1) (f.ord.imp fun z => z.1) (h.ord.imp fun z => z.1) fun x => ⟨key f h x, key h f x⟩
end FL
namespace FL
open PySem PySem.Spec PyProof.Rows L2 PySem.W
theorem e_lawNumber {d : PyData} {a b : Int} : m__law_number [d, .int a, .int b] [] = .ok (.bool (amB d a b)) [] := by
  cases d <;> simp [m__law_number, b__law_number]
theorem map_rd {rs : List Road} {k : Nat} {r : Road} (e : rs[k]? = some r) : (rs.map Road.d)[k]? = some r.d := by rw [List.getElem?_map, e]; rfl
theorem cm_step {n p c t k : Nat} {rs : List Road} {r : Road} {X : PyData} {y6 y7 y8 : Option Sl} (e : rs[k]? = some r) (o : r.one = p) : l__law_came_1 [some (.val (netD n rs)), some (.val (.int (p : Nat))), some (.val (X)), some (.val (.int (c : Nat))), some (.val (.int (t : Nat))), some (.val (.int (k : Nat))), y6, y7, y8] [] = .next [some (.val (netD n rs)), some (.val (.int (r.other : Nat))), some (.val (X)), some (.val (.int ((c + r.cost : Nat) : Int))), some (.val (.int ((t + r.time : Nat) : Int))), some (.val (.int (k : Nat))), some (.val (.int (r.one : Nat))), some (.val (.int (r.cost : Nat))), some (.val (.int (r.time : Nat)))] [] := by
  have hk : k < rs.length := (List.getElem?_eq_some_iff.mp e).1
  have hk' : (k : Int) ≤ rs.length - 1 := by omega
  have ho : (r.one : Int) = p := by omega
  have em := map_rd e
  have ix : ∀ h : Hs, items (.val (netD n rs)) h = some [.int n, .tuple (rs.map Road.d)] := fun h => rfl
  have ixr : ∀ h : Hs, items (.val r.d) h = some [.int (r.one : Nat), .int (r.other : Nat), .int (r.cost : Nat), .int (r.time : Nat)] := fun h => rfl
  unfold l__law_came_1
  simp [e_lawNumber, ix, hk', e, ixr, ho]
  simp [Road.d]
  exact ho
theorem e_cameW {n s g : Nat} {rs : List Road} {w : List Nat} (hw : Wy rs s w g) : m__law_came [netD n rs, .int (s : Nat), wyD w] [] = .ok (.tuple [.int (g : Nat), .int (cW rs w : Nat), .int (tmW rs w : Nat)]) [] := by
  have i1 : gIsa "tuple" (.val (wyD w)) [] = some (.bool true) := rfl
  refine run_eq ?_
  have e0 : mkEnv [false, false, false] [netD n rs, .int (s : Nat), wyD w] 0 ++ List.replicate 6 none = [some (.val (netD n rs)), some (.val (.int (s : Nat))), some (.val (wyD w)), none, none, none, none, none, none] := rfl
  rw [e0]
  unfold b__law_came
  refine Out.seqEq (e1 := [some (.val (netD n rs)), some (.val (.int (s : Nat))), some (.val (wyD w)), some (.val (.int ((0 : Nat) : Int))), some (.val (.int ((0 : Nat) : Int))), none, none, none, none]) (h1 := []) (by simp [line_s]) ?_
  refine Out.seqEq (e1 := [some (.val (netD n rs)), some (.val (.int (s : Nat))), some (.val (wyD w)), some (.val (.int ((0 : Nat) : Int))), some (.val (.int ((0 : Nat) : Int))), none, none, none, none]) (h1 := []) (by simp [i1]) ?_
  refine Out.seq (A := fun e h => ∃ y5 y6 y7 y8 : Option Sl, e = [some (.val (netD n rs)), some (.val (.int (g : Nat))), some (.val (wyD w)), some (.val (.int (cW rs w : Nat))), some (.val (.int (tmW rs w : Nat))), y5, y6, y7, y8] ∧ h = []) ?_ ?_
  · refine (Out.of_nx (Nx.forR (ds := natsD w) (h1 := []) (I := fun rest e h => ∃ (u : List Nat) (p c t : Nat) (y5 y6 y7 y8 : Option Sl), rest = natsD u ∧ Wy rs p u g ∧ c + cW rs u = cW rs w ∧ t + tmW rs u = tmW rs w ∧ e = [some (.val (netD n rs)), some (.val (.int (p : Nat))), some (.val (wyD w)), some (.val (.int (c : Nat))), some (.val (.int (t : Nat))), y5, y6, y7, y8] ∧ h = []) (by simp [wyD]) ⟨w, s, 0, 0, _, _, _, _, rfl, hw, by omega, by omega, rfl, rfl⟩ ?_)).mono ?_ (fun _ _ z => z)
    · rintro d rest _ _ ⟨u, p, c, t, y5, y6, y7, y8, eu, hu, hc, ht, rfl, rfl⟩
      cases u with
      | nil => cases eu
      | cons k u =>
        obtain ⟨rfl, rfl⟩ : d = .int (k : Nat) ∧ rest = natsD u := by
          have : d :: rest = .int (k : Nat) :: natsD u := eu
          exact ⟨(List.cons.inj this).1, (List.cons.inj this).2⟩
        obtain ⟨r, e, o, h⟩ := hu
        rw [cW_cons, rdK_of e] at hc
        rw [tmW_cons, rdK_of e] at ht
        refine ⟨_, by simp; rfl, ?_⟩
        exact Nx.of (cm_step (n := n) e o) ⟨u, r.other, c + r.cost, t + r.time, _, _, _, _, rfl, h, by omega, by omega, rfl, rfl⟩
    · rintro _ _ ⟨u, p, c, t, y5, y6, y7, y8, eu, hu, hc, ht, rfl, rfl⟩
      cases u with
      | cons k u => cases eu
      | nil =>
        obtain rfl : p = g := hu
        have c0 : cW rs [] = 0 := rfl
        have t0 : tmW rs [] = 0 := rfl
        rw [show cW rs w = c by omega, show tmW rs w = t by omega]
        exact ⟨_, _, _, _, rfl, rfl⟩
  · rintro _ _ ⟨y5, y6, y7, y8, rfl, rfl⟩
    exact Out.ret (s := .val (.tuple [.int (g : Nat), .int (cW rs w : Nat), .int (tmW rs w : Nat)])) (h := []) (by simp [line_s]) rfl
theorem lf_one {n s g : Nat} {rs : List Road} {M : List (List Nat)} {P : List FrR} {w : List Nat} {c : Nat} {B : Ob} {y7 y8 : Option Sl} (hw : Wy rs s w g) (f : Fst rs M P) (hv : ∀ v ∈ M, leW (kyW rs v) (kyW rs w) = true) (hl : P.length ≤ 100000) :
    ∃ P', Fst rs (M ++ [w]) P' ∧ P'.length ≤ P.length + 1 ∧ l__law_front_1 [some (.val (netD n rs)), some (.val (.int (s : Nat))), some (.val (.int (g : Nat))), some (.loc 0), some (.loc 1), some (.val (.int (c : Nat))), some (.val (wyD w)), y7, y8] [.dtq (kvF P), B] = .next [some (.val (netD n rs)), some (.val (.int (s : Nat))), some (.val (.int (g : Nat))), some (.loc 0), some (.loc 1), some (.val (.int (c : Nat))), some (.val (wyD w)), some (.val (tupI (prI (prN rs w)))), y8] [.dtq (kvF P'), B] := by
  obtain ⟨P', f', mb, pq, l'⟩ := f.step hv
  refine ⟨P', f', l', ?_⟩
  have e1 := e_cameW (n := n) hw
  have kq : key? (.val (.tuple [.int (g : Nat), .int (cW rs w : Nat), .int (tmW rs w : Nat)])) (some 1) none = some (prI (prN rs w)) := by
    show (if HT.sIx 3 0 (some 1) = 0 ∧ HT.sIx 3 3 none = 3 then none else ints? (cutD _ (some 1) none)) = _
    rw [if_neg (by decide), show (1 : Int) = ((1 : Nat) : Int) from rfl, cut_from]
    rfl
  have hkl : (kvF P).length < 16777216 := by
    unfold kvF
    rw [List.length_map]
    omega
  have ek : eKey (eCall m__law_came [false, false, false] false (aCons (eVar 0) (aCons (eVar 1) (aCons (eVar 6) aNil)))) (oSome (eK (.int 1))) oNone [some (.val (netD n rs)), some (.val (.int (s : Nat))), some (.val (.int (g : Nat))), some (.loc 0), some (.loc 1), some (.val (.int (c : Nat))), some (.val (wyD w)), y7, y8] [.dtq (kvF P), B] = .ok (prI (prN rs w)) [.dtq (kvF P), B] := by
    simp [eKey, e1, kq]
  unfold l__law_front_1 sPM
  rw [ek]
  show pmAt [some (.val (netD n rs)), some (.val (.int (s : Nat))), some (.val (.int (g : Nat))), some (.loc 0), some (.loc 1), some (.val (.int (c : Nat))), some (.val (wyD w)), y7, y8] 7 3 6 (prI (prN rs w)) [.dtq (kvF P), B] = _
  show (if (minB [(lookQ (kvF P) (prI (prN rs w))).getD (wyD w), wyD w] && (decide ((kvF P).length < 16777216) && decide (7 < 9))) = true then Fl.next [some (.val (netD n rs)), some (.val (.int (s : Nat))), some (.val (.int (g : Nat))), some (.loc 0), some (.loc 1), some (.val (.int (c : Nat))), some (.val (wyD w)), some (.val (tupI (prI (prN rs w)))), y8] [.dtq (putQ (kvF P) (prI (prN rs w)) (minD ((lookQ (kvF P) (prI (prN rs w))).getD (wyD w)) [wyD w])), B] else .bad) = _
  rw [mb, pq, decide_eq_true hkl]
  rfl
theorem v_nePr {p q : Nat × Nat} {h : Hs} : gNe (.val (tupI (prI p))) (.val (tupI (prI q))) h = some (.bool (!decide (p = q))) := by
  have sh : ∀ p : Nat × Nat, shp (tupI (prI p)) = true := fun p => shp_tupB (k := 0) (fun d m => by
    have m : d ∈ [PyData.int (p.1 : Nat), .int (p.2 : Nat)] := m
    rcases List.mem_cons.mp m with rfl | m
    · exact ⟨rfl, by simp [PyData.depth]⟩
    · rw [List.mem_singleton.mp m]
      exact ⟨rfl, by simp [PyData.depth]⟩) (by decide)
  have eo : eqOk (tupI (prI p)) (tupI (prI q)) = true := by
    show (shp (tupI (prI p)) && shp (tupI (prI q))) = true
    rw [sh, sh]
    rfl
  show (if eqOk (tupI (prI p)) (tupI (prI q)) then some (PyData.bool (!PyData.eqv (tupI (prI p)) (tupI (prI q)))) else none) = _
  have ev : PyData.eqv (tupI (prI p)) (tupI (prI q)) = decide (prI p = prI q) := eqv_ints _ _
  rw [if_pos eo, ev]
  congr 3
  exact decide_eq_decide.mpr prI_inj
theorem v_compQ {w n : Nat} {t : Tg} {vs : List Nat} {tt : Tv} {fe : Ev} {env : En} {h h2 : Hs} {kvs : List (List Int × PyData)} {out : List PyData} (e : obQ h[n]? = some kvs) (hw : w ≤ n) (c : compL t tt fe (wipeE (env.map (dropS n)) vs) (kvs.map fun p => tupI p.1) [] (h.set n .gone) = .ok out h2) (g : h2[n]? = some .gone) : compQ w t vs tt fe env (.loc n) h = .ok (.val (.list out)) (h2.set n (.dtq kvs)) := by
  unfold compQ
  dsimp only
  rw [e]
  dsimp only
  rw [if_pos hw, c]
  dsimp only
  rw [g]
theorem lf_comp {n s g : Nat} {rs : List Road} {P : List FrR} {k : Nat × Nat} {B : Ob} {y5 y6 y8 : Option Sl} (hl : P.length ≤ 100000) :
    eCompQ 0 3 (.nm 8) [8] (tAn (tV (cBin gNe (eVar 8) (eVar 7))) (tAn (tV (cBin (gI fLe) (cBin gIx (eVar 8) (eK (.int 0))) (cBin gIx (eVar 7) (eK (.int 0))))) (tV (cBin (gI fLe) (cBin gIx (eVar 8) (eK (.int 1))) (cBin gIx (eVar 7) (eK (.int 1))))))) (eVar 8) [some (.val (netD n rs)), some (.val (.int (s : Nat))), some (.val (.int (g : Nat))), some (.loc 0), some (.loc 1), y5, y6, some (.val (tupI (prI k))), y8] [.dtq (kvF P), B] =
      .ok (.val (.list ((P.filter fun p => !decide (p.1 = k) && (decide (p.1.1 ≤ k.1) && decide (p.1.2 ≤ k.2))).map fun p => tupI (prI p.1)))) [.dtq (kvF P), B] := by
  have ix : ∀ (p : Nat × Nat) (h : Hs), items (.val (tupI (prI p))) h = some [.int (p.1 : Nat), .int (p.2 : Nat)] := fun p h => rfl
  have ec := comp_flt (tg := .nm 8) (c := tAn (tV (cBin gNe (eVar 8) (eVar 7))) (tAn (tV (cBin (gI fLe) (cBin gIx (eVar 8) (eK (.int 0))) (cBin gIx (eVar 7) (eK (.int 0))))) (tV (cBin (gI fLe) (cBin gIx (eVar 8) (eK (.int 1))) (cBin gIx (eVar 7) (eK (.int 1))))))) (f := eVar 8) (env := [some (.val (netD n rs)), some (.val (.int (s : Nat))), some (.val (.int (g : Nat))), none, some (.loc 1), dropS 0 y5, dropS 0 y6, some (.val (tupI (prI k))), none]) (h := [.gone, B]) (E := fun p : FrR => [some (.val (netD n rs)), some (.val (.int (s : Nat))), some (.val (.int (g : Nat))), none, some (.loc 1), dropS 0 y5, dropS 0 y6, some (.val (tupI (prI k))), some (.val (tupI (prI p.1)))]) (dd := fun p : FrR => tupI (prI p.1)) (w := fun p : FrR => tupI (prI p.1)) (P := fun p : FrR => !decide (p.1 = k) && (decide (p.1.1 ≤ k.1) && decide (p.1.2 ≤ k.2))) P [] (fun p _ => by simp) (fun p _ => by
    by_cases z1 : p.1 = k
    · simp [v_nePr, z1]
    · by_cases z2 : p.1.1 ≤ k.1
      · by_cases z3 : p.1.2 ≤ k.2
        · simp [v_nePr, ix, z1, z2, z3]
        · simp [v_nePr, ix, z1, z2, z3]
      · simp [v_nePr, ix, z1, z2]) (fun p _ _ => by simp) (by simp; omega)
  have em : (kvF P).map (fun p => tupI p.1) = P.map fun p => tupI (prI p.1) := by
    unfold kvF
    rw [List.map_map]
    rfl
  rw [← em, List.nil_append] at ec
  exact v_compQ (n := 0) (w := 0) (h := [.dtq (kvF P), B]) (env := [some (.val (netD n rs)), some (.val (.int (s : Nat))), some (.val (.int (g : Nat))), some (.loc 0), some (.loc 1), y5, y6, some (.val (tupI (prI k))), y8]) (vs := [8]) (kvs := kvF P) (h2 := [.gone, B]) rfl (Nat.le_refl _) (show _ = _ from ec) rfl
theorem sIf_t {c : Tv} {p q : Sv} {env : En} {h h1 : Hs} (e : c env h = .ok true h1) : sIf c p q env h = p env h1 := by
  rw [v_sif, e, v_fl]
  simp
theorem sIf_f {c : Tv} {p q : Sv} {env : En} {h h1 : Hs} (e : c env h = .ok false h1) : sIf c p q env h = q env h1 := by
  rw [v_sif, e, v_fl]
  simp
theorem lf_two {n s g : Nat} {rs : List Road} {P : List FrR} {p : FrR} {X : List FrR} {y5 y6 y8 : Option Sl} (nd : P.Pairwise fun a b => a.1 ≠ b.1) (mp : p ∈ P) (hl : P.length ≤ 100000) (hx : X.length ≤ 100000) :
    l__law_front_2 [some (.val (netD n rs)), some (.val (.int (s : Nat))), some (.val (.int (g : Nat))), some (.loc 0), some (.loc 1), y5, y6, some (.val (tupI (prI p.1))), y8] [.dtq (kvF P), .lst (X.map frRow)] = .next [some (.val (netD n rs)), some (.val (.int (s : Nat))), some (.val (.int (g : Nat))), some (.loc 0), some (.loc 1), y5, y6, some (.val (tupI (prI p.1))), y8] [.dtq (kvF P), .lst ((X ++ if undB P p.1 = true then [p] else []).map frRow)] := by
  have ec := lf_comp (n := n) (s := s) (g := g) (rs := rs) (k := p.1) (B := .lst (X.map frRow)) (P := P) (y5 := y5) (y6 := y6) (y8 := y8) hl
  have sh : shp (.list ((P.filter fun q => !decide (q.1 = p.1) && (decide (q.1.1 ≤ p.1.1) && decide (q.1.2 ≤ p.1.2))).map fun p => tupI (prI p.1))) = true := shp_listB (k := 1) (fun d m => by
    obtain ⟨q, _, rfl⟩ := List.mem_map.mp m
    refine ⟨rfl, ?_⟩
    simp [tupI, prI, PyData.depth, PyData.depthAll]) (by decide)
  have eq := v_eqNv (h := [.dtq (kvF P), .lst (X.map frRow)]) sh
  have eu : ((P.filter fun q => !decide (q.1 = p.1) && (decide (q.1.1 ≤ p.1.1) && decide (q.1.2 ≤ p.1.2))).map fun p => tupI (prI p.1)).isEmpty = undB P p.1 := by
    unfold undB
    rw [Bool.eq_iff_iff, List.isEmpty_iff, List.isEmpty_iff, List.map_eq_nil_iff]
  rw [eu] at eq
  unfold l__law_front_2
  have et : tV (cBin gEq (eCompQ 0 3 (.nm 8) [8] (tAn (tV (cBin gNe (eVar 8) (eVar 7))) (tAn (tV (cBin (gI fLe) (cBin gIx (eVar 8) (eK (.int 0))) (cBin gIx (eVar 7) (eK (.int 0))))) (tV (cBin (gI fLe) (cBin gIx (eVar 8) (eK (.int 1))) (cBin gIx (eVar 7) (eK (.int 1))))))) (eVar 8)) (eLst aNil)) [some (.val (netD n rs)), some (.val (.int (s : Nat))), some (.val (.int (g : Nat))), some (.loc 0), some (.loc 1), y5, y6, some (.val (tupI (prI p.1))), y8] [.dtq (kvF P), .lst (X.map frRow)] = .ok (undB P p.1) [.dtq (kvF P), .lst (X.map frRow)] := by
    simp [ec, eq, v_line, line_s]
  have lk : lookQ (kvF P) (prI p.1) = some (wyD p.2) := look_in nd mp
  have kq : keyQ (.val (tupI (prI p.1))) = some (prI p.1) := rfl
  have dq : gDQIx (.loc 0) (.val (tupI (prI p.1))) [.dtq (kvF P), .lst (X.map frRow)] = some (wyD p.2) := by
    rw [v_dqix (kvs := kvF P) (k := prI p.1) rfl kq, lk]
  have ad : gAdd (.val (tupI (prI p.1))) (.val (.tuple [wyD p.2])) [.dtq (kvF P), .lst (X.map frRow)] = some (frRow p) := by
    show gAdd (.val (.tuple [.int (p.1.1 : Nat), .int (p.1.2 : Nat)])) _ _ = _
    rw [v_addT (by simp)]
    rfl
  cases u : undB P p.1 with
  | false =>
    rw [u] at et
    rw [sIf_f et]
    simp
  | true =>
    rw [u] at et
    have ap := v_appO (n := 1) (h := [.dtq (kvF P), .lst (X.map frRow)]) (d := frRow p) (ds := X.map frRow) rfl (by simp; omega)
    have ea : (X ++ if true = true then [p] else []).map frRow = X.map frRow ++ [frRow p] := by simp
    rw [ea]
    have es : sExp (eMt mAppend (eVar 4) (aCons (cBin gAdd (eVar 7) (eTup (aCons (cBin gDQIx (eVar 3) (eVar 7)) aNil))) aNil)) [some (.val (netD n rs)), some (.val (.int (s : Nat))), some (.val (.int (g : Nat))), some (.loc 0), some (.loc 1), y5, y6, some (.val (tupI (prI p.1))), y8] [.dtq (kvF P), .lst (X.map frRow)] = .next [some (.val (netD n rs)), some (.val (.int (s : Nat))), some (.val (.int (g : Nat))), some (.loc 0), some (.loc 1), y5, y6, some (.val (tupI (prI p.1))), y8] [.dtq (kvF P), .lst (X.map frRow ++ [frRow p])] := v_expMt (d := .none) (s := .loc 1) (ss := [.val (frRow p)]) (ds := X.map frRow) (by simp) (by simp) (by simp [dq, ad, line_s]) ap
    rw [sIf_t et, es]
theorem e_lawFront {n s g : Nat} {rs : List Road} {FR : List FrR} (hn : NetOk n rs) (hr : rs.length ≤ 12) (hs : s < n) (hF : IsFr rs s g FR) : m__law_front [netD n rs, .int (s : Nat), .int (g : Nat)] [] = .ok (.list (FR.map frRow)) [] := by
  obtain ⟨L, el, a, hl⟩ := e_lawSimple (g := g) hn hr hs
  refine run_eq ?_
  have e0 : mkEnv [false, false, false] [netD n rs, .int (s : Nat), .int (g : Nat)] 0 ++ List.replicate 6 none = [some (.val (netD n rs)), some (.val (.int (s : Nat))), some (.val (.int (g : Nat))), none, none, none, none, none, none] := rfl
  rw [e0]
  unfold b__law_front
  refine Out.seqEq (e1 := [some (.val (netD n rs)), some (.val (.int (s : Nat))), some (.val (.int (g : Nat))), some (.loc 0), some (.loc 1), none, none, none, none]) (h1 := [.dtq [], .lst []]) (by simp [v_new1]) ?_
  refine Out.seq (A := fun e h => ∃ (P : List FrR) (y5 y6 y7 y8 : Option Sl), Fst rs L P ∧ P.length ≤ L.length ∧ e = [some (.val (netD n rs)), some (.val (.int (s : Nat))), some (.val (.int (g : Nat))), some (.loc 0), some (.loc 1), y5, y6, y7, y8] ∧ h = [.dtq (kvF P), .lst []]) ?_ ?_
  · refine (Out.of_nx (Nx.forR (ds := L.map (rowJ rs)) (h1 := [.dtq [], .lst []]) (I := fun rest e h => ∃ (M N : List (List Nat)) (P : List FrR) (y5 y6 y7 y8 : Option Sl), M ++ N = L ∧ Fst rs M P ∧ P.length ≤ M.length ∧ rest = N.map (rowJ rs) ∧ e = [some (.val (netD n rs)), some (.val (.int (s : Nat))), some (.val (.int (g : Nat))), some (.loc 0), some (.loc 1), y5, y6, y7, y8] ∧ h = [.dtq (kvF P), .lst []]) (by simp [el]) ⟨[], L, [], _, _, _, _, rfl, ⟨(fun _ m => nomatch m), .nil, (fun _ m => nomatch m)⟩, Nat.le_refl _, rfl, rfl, rfl⟩ ?_)).mono ?_ (fun _ _ z => z)
    · rintro d rest _ _ ⟨M, N, P, y5, y6, y7, y8, hMN, f, hp, hrest, rfl, rfl⟩
      cases N with
      | nil => cases hrest
      | cons w N =>
        obtain ⟨rfl, rfl⟩ : d = rowJ rs w ∧ rest = N.map (rowJ rs) := by
          have : d :: rest = rowJ rs w :: N.map (rowJ rs) := hrest
          exact ⟨(List.cons.inj this).1, (List.cons.inj this).2⟩
        have mw : w ∈ L := by rw [← hMN]; simp
        have lM : M.length ≤ L.length := by rw [← hMN]; simp
        have sw := (a.iff w).mp mw
        have up := a.up
        rw [← hMN] at up
        have hv : ∀ v ∈ M, leW (kyW rs v) (kyW rs w) = true := fun v mv => ((List.pairwise_append.mp up).2.2 v mv w List.mem_cons_self).1
        obtain ⟨P', f', l', e'⟩ := lf_one (n := n) (B := .lst []) (c := cW rs w) (y7 := y7) (y8 := y8) sw.1 f hv (by omega)
        refine ⟨[some (.val (netD n rs)), some (.val (.int (s : Nat))), some (.val (.int (g : Nat))), some (.loc 0), some (.loc 1), some (.val (.int (cW rs w : Nat))), some (.val (wyD w)), y7, y8], by simp [rowJ, kyW, rowW, wyD], ?_⟩
        exact Nx.of e' ⟨M ++ [w], N, P', _, _, _, _, by rw [List.append_assoc]; exact hMN, f', by rw [List.length_append, List.length_singleton]; omega, rfl, rfl, rfl⟩
    · rintro _ _ ⟨M, N, P, y5, y6, y7, y8, hMN, f, hp, hrest, rfl, rfl⟩
      cases N with
      | cons w N => cases hrest
      | nil =>
        rw [List.append_nil] at hMN
        rw [hMN] at f hp
        exact ⟨P, _, _, _, _, f, hp, rfl, rfl⟩
  rintro _ _ ⟨P, y5, y6, y7, y8, f, hp, rfl, rfl⟩
  have fi := found_is a hF f
  have es := v_sortQ (s := .loc 0) (h := [.dtq (kvF P), .lst []]) (kvs := kvF P) rfl (by unfold kvF; rw [List.length_map]; omega)
  have em : (kvF P).map (fun p => tupI p.1) = P.map fun p => tupI (prI p.1) := by
    unfold kvF
    rw [List.map_map]
    rfl
  rw [em, srt_pr] at es
  have ms : ∀ p ∈ P.mergeSort lePr, p ∈ P := fun p m => List.mem_mergeSort.mp m
  have lS : (P.mergeSort lePr).length ≤ 100000 := by rw [List.length_mergeSort]; omega
  generalize P.mergeSort lePr = S at fi es ms lS
  refine Out.seq (A := fun e h => ∃ y5 y6 y7 y8 : Option Sl, e = [some (.val (netD n rs)), some (.val (.int (s : Nat))), some (.val (.int (g : Nat))), some (.loc 0), some (.loc 1), y5, y6, y7, y8] ∧ h = [.dtq (kvF P), .lst (FR.map frRow)]) ?_ ?_
  · refine (Out.of_nx (Nx.forR (ds := S.map fun p => tupI (prI p.1)) (h1 := [.dtq (kvF P), .lst []]) (I := fun rest e h => ∃ (M N : List FrR) (y5 y6 y7 y8 : Option Sl), M ++ N = S ∧ rest = N.map (fun p => tupI (prI p.1)) ∧ e = [some (.val (netD n rs)), some (.val (.int (s : Nat))), some (.val (.int (g : Nat))), some (.loc 0), some (.loc 1), y5, y6, y7, y8] ∧ h = [.dtq (kvF P), .lst ((M.filter fun p => undB P p.1).map frRow)]) (by simp [es]) ⟨[], S, _, _, _, _, rfl, rfl, rfl, rfl⟩ ?_)).mono ?_ (fun _ _ z => z)
    · rintro d rest _ _ ⟨M, N, y5, y6, y7, y8, hMN, hrest, rfl, rfl⟩
      cases N with
      | nil => cases hrest
      | cons p N =>
        obtain ⟨rfl, rfl⟩ : d = tupI (prI p.1) ∧ rest = N.map (fun p => tupI (prI p.1)) := by
          have : d :: rest = tupI (prI p.1) :: N.map (fun p => tupI (prI p.1)) := hrest
          exact ⟨(List.cons.inj this).1, (List.cons.inj this).2⟩
        have mS : p ∈ S := by rw [← hMN]; simp
        have lM : M.length ≤ S.length := by rw [← hMN]; simp
        have lF := List.length_filter_le (fun p => undB P p.1) M
        have e2 := lf_two (n := n) (s := s) (g := g) (rs := rs) (X := M.filter fun p => undB P p.1) (y5 := y5) (y6 := y6) (y8 := y8) f.nd (ms p mS) (by omega) (by omega)
        have ef : (M ++ [p]).filter (fun p => undB P p.1) = (M.filter fun p => undB P p.1) ++ if undB P p.1 = true then [p] else [] := by
          rw [List.filter_append]
          cases u : undB P p.1 <;> simp [u]
        rw [← ef] at e2
        refine ⟨[some (.val (netD n rs)), some (.val (.int (s : Nat))), some (.val (.int (g : Nat))), some (.loc 0), some (.loc 1), y5, y6, some (.val (tupI (prI p.1))), y8], by simp, ?_⟩
        exact Nx.of e2 ⟨M ++ [p], N, _, _, _, _, by rw [List.append_assoc]; exact hMN, rfl, rfl, rfl⟩
    · rintro _ _ ⟨M, N, y5, y6, y7, y8, hMN, hrest, rfl, rfl⟩
      cases N with
      | cons w N => cases hrest
      | nil =>
        rw [List.append_nil] at hMN
        rw [hMN, fi]
        exact ⟨_, _, _, _, rfl, rfl⟩
  rintro _ _ ⟨y5, y6, y7, y8, rfl, rfl⟩
  exact Out.ret (s := .loc 1) (h := [.dtq (kvF P), .lst (FR.map frRow)]) (by simp) (v_outL (noLs_frs _) rfl)
end FL
namespace FL
open PySem PySem.Spec PyProof.Rows L2 PySem.W
theorem rk_fr {p : FrR} (h1 : p.1.1 < 1024) (h2 : p.1.2 < 1024) (h3 : p.2.length ≤ 10) (h4 : ∀ k ∈ p.2, k < 1024) : Rk 414 2 (frRow p) := by
  have rw_ : Rk 133 1 (.tuple (natsD p.2)) := (Rk.tuple (w := 11) (k := 0) (ds := natsD p.2) fun d m => by
    obtain ⟨k, mk, rfl⟩ := List.mem_map.mp m
    exact rk_int10 (h4 k mk)).mono (by
      have : (natsD p.2).length = p.2.length := by simp [natsD]
      omega) (by decide)
  refine (Rk.tuple (w := 133) (k := 1) fun d m => ?_).mono (by simp) (by decide)
  simp only [List.mem_cons, List.not_mem_nil, or_false] at m
  rcases m with rfl | rfl | rfl
  · exact (rk_int10 h1).mono (by decide) (by decide)
  · exact (rk_int10 h2).mono (by decide) (by decide)
  · exact rw_
theorem rk_frs {FR : List FrR} (hl : FR.length ≤ 991) (h : ∀ p ∈ FR, p.1.1 < 1024 ∧ p.1.2 < 1024 ∧ p.2.length ≤ 10 ∧ ∀ k ∈ p.2, k < 1024) : Rk 420000 3 (.list (FR.map frRow)) := by
  refine (Rk.list (w := 414) (k := 2) fun d m => ?_).mono (by rw [List.length_map]; omega) (by decide)
  obtain ⟨p, mp, rfl⟩ := List.mem_map.mp m
  obtain ⟨h1, h2, h3, h4⟩ := h p mp
  exact rk_fr h1 h2 h3 h4
def rs0 : List Road := [⟨0, 1, 1, 9⟩, ⟨0, 2, 2, 3⟩, ⟨1, 3, 1, 0⟩, ⟨2, 3, 1, 3⟩, ⟨0, 3, 9, 0⟩, ⟨0, 1, 1, 9⟩, ⟨2, 1, 1, 1⟩, ⟨0, 3, 9, 1⟩]
theorem ok0 : NetOk 4 rs0 := ⟨by decide, by decide, by decide, fun r m => by
  simp only [rs0, List.mem_cons, List.not_mem_nil, or_false] at m
  rcases m with rfl | rfl | rfl | rfl | rfl | rfl | rfl | rfl <;> exact ⟨by decide, by decide, by decide, by decide, by decide, by decide⟩⟩
theorem ok1 : NetOk 1 [] := ⟨by decide, by decide, by decide, fun _ m => nomatch m⟩
theorem rd0 {k : Nat} {r : Road} (e : rs0[k]? = some r) : (k, r.one, r.other) ∈ [(0, 0, 1), (1, 0, 2), (2, 1, 3), (3, 2, 3), (4, 0, 3), (5, 0, 1), (6, 2, 1), (7, 0, 3)] := by
  have hk : k < 8 := (List.getElem?_eq_some_iff.mp e).1
  match k, hk, e with
  | 0, _, e => cases e; decide
  | 1, _, e => cases e; decide
  | 2, _, e => cases e; decide
  | 3, _, e => cases e; decide
  | 4, _, e => cases e; decide
  | 5, _, e => cases e; decide
  | 6, _, e => cases e; decide
  | 7, _, e => cases e; decide
theorem rd0c {k : Nat} {r : Road} (e : rs0[k]? = some r) : (k = 0 ∧ r.one = 0 ∧ r.other = 1) ∨ (k = 1 ∧ r.one = 0 ∧ r.other = 2) ∨ (k = 2 ∧ r.one = 1 ∧ r.other = 3) ∨ (k = 3 ∧ r.one = 2 ∧ r.other = 3) ∨ (k = 4 ∧ r.one = 0 ∧ r.other = 3) ∨ (k = 5 ∧ r.one = 0 ∧ r.other = 1) ∨ (k = 6 ∧ r.one = 2 ∧ r.other = 1) ∨ (k = 7 ∧ r.one = 0 ∧ r.other = 3) := by
  have := rd0 e
  simp only [List.mem_cons, List.not_mem_nil, or_false, Prod.mk.injEq] at this
  exact this
theorem wy3 : ∀ {w : List Nat} {g : Nat}, Wy rs0 3 w g → w = [] ∧ g = 3
  | [], g, h => ⟨rfl, h.symm⟩
  | k :: w, g, ⟨r, e, o, h⟩ => by
    have := rd0c e
    omega
theorem wy1 : ∀ {w : List Nat} {g : Nat}, Wy rs0 1 w g → (w = [] ∧ g = 1) ∨ (w = [2] ∧ g = 3)
  | [], g, h => .inl ⟨rfl, h.symm⟩
  | k :: w, g, ⟨r, e, o, h⟩ => by
    have := rd0c e
    obtain ⟨rfl, z⟩ : k = 2 ∧ r.other = 3 := by omega
    rw [z] at h
    obtain ⟨rfl, rfl⟩ := wy3 h
    exact .inr ⟨rfl, rfl⟩
theorem wy2 : ∀ {w : List Nat} {g : Nat}, Wy rs0 2 w g → (w = [] ∧ g = 2) ∨ (w = [3] ∧ g = 3) ∨ (w = [6] ∧ g = 1) ∨ (w = [6, 2] ∧ g = 3)
  | [], g, h => .inl ⟨rfl, h.symm⟩
  | k :: w, g, ⟨r, e, o, h⟩ => by
    have := rd0c e
    have z : (k = 3 ∧ r.other = 3) ∨ (k = 6 ∧ r.other = 1) := by omega
    rcases z with ⟨rfl, z⟩ | ⟨rfl, z⟩
    · rw [z] at h
      obtain ⟨rfl, rfl⟩ := wy3 h
      exact .inr (.inl ⟨rfl, rfl⟩)
    · rw [z] at h
      rcases wy1 h with ⟨rfl, rfl⟩ | ⟨rfl, rfl⟩
      · exact .inr (.inr (.inl ⟨rfl, rfl⟩))
      · exact .inr (.inr (.inr ⟨rfl, rfl⟩))
theorem wy0 : ∀ {w : List Nat}, Wy rs0 0 w 3 → w ∈ [[0, 2], [5, 2], [1, 3], [1, 6, 2], [4], [7]]
  | [], h => by cases h
  | k :: w, ⟨r, e, o, h⟩ => by
    have := rd0c e
    have z : ((k = 0 ∨ k = 5) ∧ r.other = 1) ∨ (k = 1 ∧ r.other = 2) ∨ ((k = 4 ∨ k = 7) ∧ r.other = 3) := by omega
    rcases z with ⟨zk, z⟩ | ⟨zk, z⟩ | ⟨zk, z⟩
    · rw [z] at h
      rcases wy1 h with ⟨_, q⟩ | ⟨rfl, _⟩
      · omega
      · rcases zk with rfl | rfl <;> decide
    · subst zk
      rw [z] at h
      rcases wy2 h with ⟨_, q⟩ | ⟨rfl, _⟩ | ⟨_, q⟩ | ⟨rfl, _⟩
      · omega
      · decide
      · omega
      · decide
    · rw [z] at h
      obtain ⟨rfl, _⟩ := wy3 h
      rcases zk with rfl | rfl <;> decide
def FR0 : List FrR := [((2, 9), [0, 2]), ((3, 6), [1, 3]), ((4, 4), [1, 6, 2]), ((9, 0), [4])]
theorem fr0 : IsFr rs0 0 3 FR0 := by
  refine ⟨by decide, fun p m => ?_, fun w hw => ?_⟩
  · have low : ∀ p ∈ FR0, cW rs0 p.2 = p.1.1 ∧ tmW rs0 p.2 = p.1.2 ∧ (plW rs0 0 p.2).Nodup ∧ ∀ w ∈ [[0, 2], [5, 2], [1, 3], [1, 6, 2], [4], [7]], cW rs0 w = p.1.1 → tmW rs0 w = p.1.2 → inW p.2 ≤ inW w := by decide +kernel
    obtain ⟨l1, l2, l3, l4⟩ := low p m
    refine ⟨⟨?_, l3⟩, l1, l2, fun w hw e1 e2 => l4 w (wy0 hw) e1 e2⟩
    simp only [FR0, List.mem_cons, List.not_mem_nil, or_false] at m
    rcases m with rfl | rfl | rfl | rfl
    · exact ⟨_, rfl, rfl, _, rfl, rfl, rfl⟩
    · exact ⟨_, rfl, rfl, _, rfl, rfl, rfl⟩
    · exact ⟨_, rfl, rfl, _, rfl, rfl, _, rfl, rfl, rfl⟩
    · exact ⟨_, rfl, rfl, rfl⟩
  · have cov : ∀ w ∈ [[0, 2], [5, 2], [1, 3], [1, 6, 2], [4], [7]], ∃ p ∈ FR0, p.1.1 ≤ cW rs0 w ∧ p.1.2 ≤ tmW rs0 w := by decide +kernel
    exact cov w (wy0 hw)
theorem fr30 : IsFr rs0 3 0 [] := ⟨.nil, (fun _ m => nomatch m), fun w hw => by
  have := (wy3 hw).2
  omega⟩
def FRo : List FrR := [((0, 0), [])]
theorem fr_one {rs : List Road} {s : Nat} (h : ∀ w, Wy rs s w s → w = []) : IsFr rs s s FRo := ⟨List.pairwise_singleton _ _, fun p m => by
  rw [List.mem_singleton.mp m]
  exact ⟨⟨rfl, by simp [plW, oth]⟩, rfl, rfl, fun w hw _ _ => by rw [h w hw]; exact List.le_refl _⟩, fun w hw => ⟨_, List.mem_singleton.mpr rfl, Nat.zero_le _, Nat.zero_le _⟩⟩
theorem fr22 : IsFr rs0 2 2 FRo := fr_one fun w hw => by
  rcases wy2 hw with ⟨e, _⟩ | ⟨_, q⟩ | ⟨_, q⟩ | ⟨_, q⟩
  · exact e
  · omega
  · omega
  · omega
theorem fr11 : IsFr [] 0 0 FRo := fr_one fun w hw => by
  cases w with
  | nil => rfl
  | cons k w =>
    obtain ⟨r, e, _⟩ := hw
    cases e
theorem e_frOf {n s g : Nat} {rs : List Road} {FR : List FrR} (hn : NetOk n rs) (hs : s < n) (hg : g < n) (f : IsFr rs s g FR) : m_front_of [netD n rs, .int (s : Nat), .int (g : Nat)] [] = .ok (.list (FR.map frRow)) [] := by
  obtain ⟨FT, ef, h, _⟩ := e_frontEx hn hs hg
  rw [isFr_uniq f h]
  exact e_frontOf hn hs hg ef
end FL
namespace FL
open PySem PySem.Spec PyProof.Rows L2 PySem.W
def R7 : PyData := .tuple ((rs0.take 7).map Road.d)
theorem lt1 {ns : List Int} {k n s g : Nat} {rs : List Road} {FR : List FrR} {st : Dr} {d : PyData} {y10 : Option Sl} (hn : NetOk n rs) (hs : s < n) (hg : g < n) (f : IsFr rs s g FR) (hl : FR.length ≤ 991) (rf : Rk 420000 3 (.list (FR.map frRow))) :
    l_law_1 [some (.val (.list (ns.map .int))), some (.val (R7)), some (.val (netD n rs)), some (.val (.int (k : Nat))), some (.loc 0), some (.val (.int (s : Nat))), some (.val (.int (g : Nat))), some (.val (.str (netD n rs).shown)), some (.val (.str (PyData.list (FR.map frRow)).shown)), some (.val (d)), y10] [st.o] = .next [some (.val (.list (ns.map .int))), some (.val (R7)), some (.val (netD n rs)), some (.val (.int (k : Nat))), some (.loc 0), some (.val (.int (s : Nat))), some (.val (.int (g : Nat))), some (.val (.str (netD n rs).shown)), some (.val (.str (PyData.list (FR.map frRow)).shown)), some (.val (d)), some (.loc 1)] [st.o, .lst (FR.map frRow ++ [.none])] := by
  have e1 := e_frOf hn hs hg f
  have e6 : callN m_front_of [false, false, false] [.val (netD n rs), .val (.int (s : Nat)), .val (.int (g : Nat))] [st.o] = .ok (.loc 1) [st.o, .lst (FR.map frRow)] := by
    rw [callN_eq (ns := []) (vw := []) rfl rfl e1 rfl]
    rfl
  have r1 : gReprX [.loc 1] [st.o, .lst (FR.map frRow)] = some (.str (PyData.list (FR.map frRow)).shown) := v_reprX rfl rf (by decide) (by decide)
  have r2 : ∀ h, gReprX [.val (netD n rs)] h = some (.str (netD n rs).shown) := fun h => v_reprX rfl (rk_net hn) (by decide) (by decide)
  have ap := v_appO (n := 1) (h := [st.o, .lst (FR.map frRow)]) (d := .none) (ds := FR.map frRow) rfl (by rw [List.length_map]; omega)
  have es : sExp (eMt mAppend (eVar 10) (aCons (eK .none) aNil)) [some (.val (.list (ns.map .int))), some (.val (R7)), some (.val (netD n rs)), some (.val (.int (k : Nat))), some (.loc 0), some (.val (.int (s : Nat))), some (.val (.int (g : Nat))), some (.val (.str (netD n rs).shown)), some (.val (.str (PyData.list (FR.map frRow)).shown)), some (.val (d)), some (.loc 1)] [st.o, .lst (FR.map frRow)] = .next [some (.val (.list (ns.map .int))), some (.val (R7)), some (.val (netD n rs)), some (.val (.int (k : Nat))), some (.loc 0), some (.val (.int (s : Nat))), some (.val (.int (g : Nat))), some (.val (.str (netD n rs).shown)), some (.val (.str (PyData.list (FR.map frRow)).shown)), some (.val (d)), some (.loc 1)] [st.o, .lst (FR.map frRow ++ [.none])] := v_expMt (d := .none) (s := .loc 1) (ss := [.val .none]) (ds := FR.map frRow) (by simp) (by simp) (by simp) ap
  generalize FR.map frRow = FD at *
  unfold l_law_1
  simp [e6, r1, r2]
  exact es
theorem lt2 {ns : List Int} {k : Nat} {y2 y4 y5 y6 y7 y8 y9 y10 : Option Sl} : Nx (l_law_2 [some (.val (.list (ns.map .int))), some (.val (R7)), y2, some (.val (.int (k : Nat))), y4, y5, y6, y7, y8, y9, y10] []) fun e h => ∃ (st : Dr) (hh : Hs) (y2 y5 y6 y7 y8 y9 y10 : Option Sl), e = [some (.val (.list (ns.map .int))), some (.val (R7)), y2, some (.val (.int (k : Nat))), some (.loc 0), y5, y6, y7, y8, y9, y10] ∧ h = st.o :: hh := by
  unfold l_law_2
  refine Nx.seqSet (s := .loc 0) (h1 := [(stOf (ns[k]?.getD 0)).o]) (by simp [c_state]) ?_
  obtain ⟨n, rs, s1, hn, hn7, hr, en⟩ := c_net (s := stOf (ns[k]?.getD 0)) (a := 7) (b := 12) (r := []) (by decide) (by decide)
  refine Nx.seqSet (s := .val (netD n rs)) (h1 := [s1.o]) (by simpa using en) ?_
  obtain ⟨s, g, st, hs, hg, ee⟩ := c_ends (s := s1) (r := []) hn
  refine Nx.seqEq (e1 := [some (.val (.list (ns.map .int))), some (.val (R7)), some (.val (netD n rs)), some (.val (.int (k : Nat))), some (.loc 0), some (.val (.int (s : Nat))), some (.val (.int (g : Nat))), y7, y8, y9, y10]) (h1 := [st.o]) (by simp [ee]) ?_
  obtain ⟨FR, ef, f, hl, hp⟩ := e_frontEx hn hs hg
  have e1 := e_lawFront hn hr hs f
  have rf := rk_frs hl fun p mp => by
    obtain ⟨h1, h2⟩ := hp p mp
    have sw := (f.way p mp).1
    have h3 := sw.lenX hn hs
    have h4 := hn.n2
    exact ⟨by omega, by omega, by omega, fun k mk => by
      have := sw.1.ltX k mk
      omega⟩
  have r1 : ∀ h, gReprX [.val (.list (FR.map frRow))] h = some (.str (PyData.list (FR.map frRow)).shown) := fun h => v_reprX rfl rf (by decide) (by decide)
  have r2 : ∀ h, gReprX [.val (netD n rs)] h = some (.str (netD n rs).shown) := fun h => v_reprX rfl (rk_net hn) (by decide) (by decide)
  refine Nx.seqEq (e1 := [some (.val (.list (ns.map .int))), some (.val (R7)), some (.val (netD n rs)), some (.val (.int (k : Nat))), some (.loc 0), some (.val (.int (s : Nat))), some (.val (.int (g : Nat))), some (.val (.str (netD n rs).shown)), some (.val (.str (PyData.list (FR.map frRow)).shown)), y9, y10]) (h1 := [st.o]) (by simp [e1, r1, r2]) ?_
  refine (Nx.for_ (ds := [PyData.int 0, .int 1]) (h1 := [st.o]) (I := fun e h => ∃ y9 y10 : Option Sl, e = [some (.val (.list (ns.map .int))), some (.val (R7)), some (.val (netD n rs)), some (.val (.int (k : Nat))), some (.loc 0), some (.val (.int (s : Nat))), some (.val (.int (g : Nat))), some (.val (.str (netD n rs).shown)), some (.val (.str (PyData.list (FR.map frRow)).shown)), y9, y10] ∧ h = [st.o]) (by simp; rfl) ⟨_, _, rfl, rfl⟩ ?_).mono ?_
  · rintro d hd _ _ ⟨y9, y10, rfl, rfl⟩
    refine ⟨[some (.val (.list (ns.map .int))), some (.val (R7)), some (.val (netD n rs)), some (.val (.int (k : Nat))), some (.loc 0), some (.val (.int (s : Nat))), some (.val (.int (g : Nat))), some (.val (.str (netD n rs).shown)), some (.val (.str (PyData.list (FR.map frRow)).shown)), some (.val (d)), y10], by simp, ?_⟩
    exact Nx.of (lt1 hn hs hg f hl rf) ⟨_, _, rfl, rfl⟩
  · rintro _ _ ⟨y9, y10, rfl, rfl⟩
    exact ⟨st, _, _, _, _, _, _, _, _, rfl, rfl⟩
theorem law_true : ∀ ns : List Int, ns.length ≤ 63 → ∃ h', m_law [.list (ns.map PyData.int)] [] = .ok (.bool true) h' := by
  intro ns _
  have key := run_ex (fr := false) (io := [false]) (nl := 10) (p := b_law) (ds := [.list (ns.map PyData.int)]) (os := []) (P := fun d h => d = .bool true) ?_
  · obtain ⟨d, h', e, rfl⟩ := key
    exact ⟨h', e⟩
  have e0 : mkEnv [false] [.list (ns.map PyData.int)] 0 ++ List.replicate 10 none = [some (.val (.list (ns.map .int))), none, none, none, none, none, none, none, none, none, none] := rfl
  rw [e0]
  have rFo : Rk 420000 3 (.list (FRo.map frRow)) := rk_frs (by decide) (by decide)
  have rF0 : Rk 420000 3 (.list (FR0.map frRow)) := rk_frs (by decide) (by decide)
  have rNl : Rk 420000 3 (.list ([].map frRow)) := rk_frs (by decide) (fun _ m => nomatch m)
  have f1 : m_front_of [netD 4 rs0, .int 0, .int 3] [] = .ok (.list (FR0.map frRow)) [] := e_frOf ok0 (by decide) (by decide) fr0
  have f2 : m_front_of [netD 4 rs0, .int 3, .int 0] [] = .ok (.list ([].map frRow)) [] := e_frOf ok0 (by decide) (by decide) fr30
  have f3 : m_front_of [netD 4 rs0, .int 2, .int 2] [] = .ok (.list (FRo.map frRow)) [] := e_frOf ok0 (by decide) (by decide) fr22
  have f4 : m_front_of [.tuple [.int 1, .tuple []], .int 0, .int 0] [] = .ok (.list (FRo.map frRow)) [] := e_frOf ok1 (by decide) (by decide) fr11
  have ne1 : gNe (.val (.list (FR0.map frRow))) (.val (.list (FR0.map frRow))) [] = some (.bool false) := v_ne_self rF0 (by decide)
  have ne2 : gNe (.val (.list [.list ([].map frRow), .list (FRo.map frRow), .list (FRo.map frRow)])) (.val (.list [.list ([].map frRow), .list (FRo.map frRow), .list (FRo.map frRow)])) [] = some (.bool false) := v_ne_self (w := 1260012) (k := 4) ((Rk.list (w := 420000) (k := 3) fun d m => by
    simp only [List.mem_cons, List.not_mem_nil, or_false] at m
    rcases m with rfl | rfl | rfl
    · exact rNl
    · exact rFo
    · exact rFo).mono (by simp) (by decide)) (by decide)
  have w0 : PyData.list [.tuple [.int 2, .int 9, .tuple [.int 0, .int 2]], .tuple [.int 3, .int 6, .tuple [.int 1, .int 3]], .tuple [.int 4, .int 4, .tuple [.int 1, .int 6, .int 2]], .tuple [.int 9, .int 0, .tuple [.int 4]]] = .list (FR0.map frRow) := rfl
  have w1 : PyData.tuple [.int 0, .int 0, .tuple []] = frRow ((0, 0), []) := rfl
  have w2 : PyData.list [frRow ((0, 0), [])] = .list (FRo.map frRow) := rfl
  have w3 : PyData.list [] = .list (([] : List FrR).map frRow) := rfl
  have ad := v_addT (a := (rs0.take 7).map Road.d) (b := [.tuple [.int 0, .int 3, .int 9, .int 1]]) (h := []) (by decide)
  unfold b_law
  refine Out.seqEq (e1 := [some (.val (.list (ns.map .int))), some (.val (R7)), none, none, none, none, none, none, none, none, none]) (h1 := []) (by simp [line_s]; rfl) ?_
  refine Out.seqEq (e1 := [some (.val (.list (ns.map .int))), some (.val (R7)), some (.val (netD 4 rs0)), none, none, none, none, none, none, none, none]) (h1 := []) (by
    have ad' : gAdd (.val R7) (.val (.tuple [.tuple [.int 0, .int 3, .int 9, .int 1]])) [] = some (.tuple (rs0.map Road.d)) := ad
    simp [line_s, ad']
    rfl) ?_
  refine Out.seqEq (e1 := [some (.val (.list (ns.map .int))), some (.val (R7)), some (.val (netD 4 rs0)), none, none, none, none, none, none, none, none]) (h1 := []) (by
    simp [line_s, v_line, f1]
    rw [w0, ne1]
    simp) ?_
  refine Out.seqEq (e1 := [some (.val (.list (ns.map .int))), some (.val (R7)), some (.val (netD 4 rs0)), none, none, none, none, none, none, none, none]) (h1 := []) (by
    simp [line_s, v_line, f2, f3, f4]
    have w4 : gNe (.val (.list [.list [], .list (FRo.map frRow), .list (FRo.map frRow)])) (.val (.list [.list [], .list [.tuple [.int 0, .int 0, .tuple []]], .list [.tuple [.int 0, .int 0, .tuple []]]])) [] = some (.bool false) := ne2
    rw [w4]
    simp) ?_
  refine Out.seq (A := fun e h => True) ?_ ?_
  · refine (Out.of_nx (Nx.for_ (ds := upTo 0 (max 1 (min (ns.length : Int) 4)).toNat) (h1 := []) (I := fun e h => ∃ y2 y3 y4 y5 y6 y7 y8 y9 y10 : Option Sl, e = [some (.val (.list (ns.map .int))), some (.val (R7)), y2, y3, y4, y5, y6, y7, y8, y9, y10] ∧ h = []) (by
      simp
      rw [v_rng1 (by omega) (by omega)]) ⟨_, _, _, _, _, _, _, _, _, rfl, rfl⟩ (by
      rintro d hd _ _ ⟨y2, y3, y4, y5, y6, y7, y8, y9, y10, rfl, rfl⟩
      obtain ⟨k, hk, rfl⟩ := List.mem_map.mp (show d ∈ (List.range (max 1 (min (ns.length : Int) 4)).toNat).map fun (k : Nat) => PyData.int (0 + (k : Int)) from hd)
      refine ⟨_, by simp; rfl, ?_⟩
      refine lt2.mono ?_
      rintro _ _ ⟨b, hh, y2, y5, y6, y7, y8, y9, y10, rfl, rfl⟩
      exact ⟨_, _, _, _, _, _, _, _, _, rfl, rfl⟩))).mono (fun _ _ _ => trivial) (fun _ _ z => z)
  · intro env hh _
    exact Out.ret (s := .val (.bool true)) (h := hh) (by simp) ⟨_, _, v_outV, rfl⟩
end FL
namespace FL
open PySem PySem.Spec PyProof.Rows L2
def topS (i : Nat) : Stmt := PySem.Challenge.pw_waysranked_k50_fronts_told.main.body.getD i (.Pass ⟨0, 0, 0, 0⟩)
structure Tx (K : PySem.W.Frag) (mg : Str → Option Value) : Prop where
  n_all : mg "all" = none
  n_bool : mg "bool" = none
  n_enumerate : mg "enumerate" = none
  n_int : mg "int" = none
  n_isinstance : mg "isinstance" = none
  n_len : mg "len" = none
  n_max : mg "max" = none
  n_min : mg "min" = none
  n_range : mg "range" = none
  n_repr : mg "repr" = none
  n_sorted : mg "sorted" = none
  n_tuple : mg "tuple" = none
  c_MOST_COST : ∃ t, mg "MOST_COST" = some (.int 99 t)
  c_MOST_PLACES : ∃ t, mg "MOST_PLACES" = some (.int 10 t)
  c_MOST_ROADS : ∃ t, mg "MOST_ROADS" = some (.int 30 t)
  c_MOST_TIME : ∃ t, mg "MOST_TIME" = some (.int 99 t)
  x_NoNet : ∃ c, ExCls K mg "NoNet" c
  x_NoPlace : ∃ c, ExCls K mg "NoPlace" c
/-- a def that keeps its promise -/
structure Cal (P : Program) (w : World) (K : PySem.W.Frag) (mg : Str → Option Value) (base : Heap) (x : Str) (k : Nat) (ps : List Str) (sp : Sp) : Prop where
  ex : ∃ (f : Addr) (fd : FuncData), FnG P w K mg base (L2.CX P w) k f fd ps sp ∧ mg x = some (.ref f) ∧ PySem.W.keepIn K (.ref f) = true ∧ Binds K fd ps []
section
variable {P : Program} {w : World} {K : PySem.W.Frag} {mg : Str → Option Value} {base : Heap} {TT : List (Addr × Str)}
abbrev s_is_among : Stmt := topS 6
abbrev N_is_among : List Str := ["thing", "least", "most"]
theorem sc_is_among : FnScope N_is_among ["thing", "least", "most"] (defScope s_is_among) := ⟨rfl, rfl, rfl, by decide +kernel, rfl, by decide +kernel, by decide +kernel⟩
abbrev Q_is_among (P : Program) (w : World) (K : PySem.W.Frag) (mg : Str → Option Value) (base : Heap) (TT : List (Addr × Str)) : Prop := Cal P w K mg base "is_among" 1 ["thing", "least", "most"] (spOf K mg TT false [false, false, false] m_is_among)
theorem own_is_among {f : Addr} {fd : FuncData} (T : Tx K mg) (F : Fun K "is_among" "is_among" s_is_among f fd) : FnG P w K mg base (L2.CX P w) 1 f fd ["thing", "least", "most"] (spOf K mg TT false [false, false, false] m_is_among) := by
  refine fnD false [false, false, false] F sc_is_among rfl ?_
  intro cdv hcv A outer s H E C hT hW hgd hr
  have tk := takes_of (X := cxOf (L2.CX P w) P w K mg base N_is_among "is_among" (defScope s_is_among) f cdv A outer s H E) (E := E) rfl rfl rfl rfl
  have hp := passes_of (X := cxOf (L2.CX P w) P w K mg base N_is_among "is_among" (defScope s_is_among) f cdv A outer s H E) rfl
  exact (fss_one (fs_ret (fe_and (fe_isa (c := "int") (by decide) (by rfl) T.n_isinstance (by rfl) T.n_int (by decide +kernel) (fe_var 0)) (fe_and (fe_not (fe_isa (c := "bool") (by decide) (by rfl) T.n_isinstance (by rfl) T.n_bool (by decide +kernel) (fe_var 0))) (fe_one (fe_chain o_le o_le (fe_var 1) (fe_var 0) (fe_var 2)))))))
theorem ok_is_among {f : Addr} {fd : FuncData} (T : Tx K mg) (F : Fun K "is_among" "is_among" s_is_among f fd) (hm : mg "is_among" = some (.ref f)) : Q_is_among P w K mg base TT :=
  ⟨⟨f, fd, own_is_among T F, hm, F.kp, F.binds fun _ _ _ _ _ _ us hl => match us, hl with | [_, _, _], _ => rfl⟩⟩
abbrev s_is_road : Stmt := topS 12
abbrev N_is_road : List Str := ["thing", "places", "one", "other", "cost", "time", "end"]
theorem sc_is_road : FnScope N_is_road ["thing", "places"] (defScope s_is_road) := ⟨rfl, rfl, rfl, by decide +kernel, rfl, by decide +kernel, by decide +kernel⟩
abbrev Q_is_road (P : Program) (w : World) (K : PySem.W.Frag) (mg : Str → Option Value) (base : Heap) (TT : List (Addr × Str)) : Prop := Cal P w K mg base "is_road" 2 ["thing", "places"] (spOf K mg TT false [false, false] m_is_road)
theorem own_is_road {f : Addr} {fd : FuncData} (T : Tx K mg) (g_is_among : Q_is_among P w K mg base TT) (F : Fun K "is_road" "is_road" s_is_road f fd) : FnG P w K mg base (L2.CX P w) 2 f fd ["thing", "places"] (spOf K mg TT false [false, false] m_is_road) := by
  obtain ⟨f_is_among, fd_is_among, G_is_among, mg_is_among, kp_is_among, b_is_among⟩ := g_is_among.ex
  refine fnD false [false, false] F sc_is_road rfl ?_
  intro cdv hcv A outer s H E C hT hW hgd hr
  have tk := takes_of (X := cxOf (L2.CX P w) P w K mg base N_is_road "is_road" (defScope s_is_road) f cdv A outer s H E) (E := E) rfl rfl rfl rfl
  have hp := passes_of (X := cxOf (L2.CX P w) P w K mg base N_is_road "is_road" (defScope s_is_road) f cdv A outer s H E) rfl
  exact (fss_cons (fs_if (ft_w (fw_or (ft_not (ft_val (fe_isa (c := "tuple") (by decide) (by rfl) T.n_isinstance (by rfl) T.n_tuple (by decide +kernel) (fe_var 0)))) (fw_or (ft_cmp (o_ne hr.units) (fe_callB c_len (by rfl) T.n_len (by decide +kernel) (fa_cons (fe_var 0) fa_nil)) fe_int (nomark _)) (fw_or1 (ft_not (ft_val (fe_callB (c_all rfl) (by rfl) T.n_all (by decide +kernel) (fa_cons (fe_comp (own := [("end", 6)]) rfl sc_is_road.nd (fi_seq (fe_slice (fe_var 0) fo_none (fo_some fe_int))) (blkOk_by (own := [("end", 6)]) (N := N_is_road) (sc := defScope s_is_road) (by decide +kernel)) (fun _ _ _ _ _ => (fg_nm sc_is_road.nd rfl (by first | exact Or.inl rfl | exact Or.inr rfl))) (fun _ hT1 _ _ _ _ _ => fts_nil) (fun _ hT1 _ _ _ _ _ => (fe_call G_is_among (hT1.trans hT) hgd (hr.mono (by decide : 1 ≤ 1)) takes0 (by rfl) mg_is_among kp_is_among b_is_among (fa_cons (fe_var 6) (fa_cons fe_int (fa_cons (fe_op o_sub (fe_var 1) fe_int) fa_nil)))))) fa_nil)))))))) (fss_one (fs_ret fe_bl)) fss_nil)
      (fss_cons (fs_asg (fe_var 0) (fg_tp rfl (fgs_cons (fg_nm sc_is_road.nd rfl (by first | exact Or.inl rfl | exact Or.inr rfl)) (fgs_cons (fg_nm sc_is_road.nd rfl (by first | exact Or.inl rfl | exact Or.inr rfl)) (fgs_cons (fg_nm sc_is_road.nd rfl (by first | exact Or.inl rfl | exact Or.inr rfl)) (fgs_cons (fg_nm sc_is_road.nd rfl (by first | exact Or.inl rfl | exact Or.inr rfl)) fgs_nil))))))
      (fss_one (fs_ret (fe_and (fe_cmp (o_ne hr.units) (fe_var 2) (fe_var 3) (nomark _)) (fe_and (fe_call G_is_among hT hgd (hr.mono (by decide : 1 ≤ 1)) tk (by rfl) mg_is_among kp_is_among b_is_among (fa_cons (fe_var 4) (fa_cons fe_int (fa_cons (fe_globI (by rfl) T.c_MOST_COST) fa_nil)))) (fe_one (fe_call G_is_among hT hgd (hr.mono (by decide : 1 ≤ 1)) tk (by rfl) mg_is_among kp_is_among b_is_among (fa_cons (fe_var 5) (fa_cons fe_int (fa_cons (fe_globI (by rfl) T.c_MOST_TIME) fa_nil)))))))))))
theorem ok_is_road {f : Addr} {fd : FuncData} (T : Tx K mg) (g_is_among : Q_is_among P w K mg base TT) (F : Fun K "is_road" "is_road" s_is_road f fd) (hm : mg "is_road" = some (.ref f)) : Q_is_road P w K mg base TT :=
  ⟨⟨f, fd, own_is_road T g_is_among F, hm, F.kp, F.binds fun _ _ _ _ _ _ us hl => match us, hl with | [_, _], _ => rfl⟩⟩
abbrev s_is_net : Stmt := topS 13
abbrev N_is_net : List Str := ["thing", "places", "roads", "one"]
theorem sc_is_net : FnScope N_is_net ["thing"] (defScope s_is_net) := ⟨rfl, rfl, rfl, by decide +kernel, rfl, by decide +kernel, by decide +kernel⟩
abbrev Q_is_net (P : Program) (w : World) (K : PySem.W.Frag) (mg : Str → Option Value) (base : Heap) (TT : List (Addr × Str)) : Prop := Cal P w K mg base "is_net" 3 ["thing"] (spOf K mg TT false [false] m_is_net)
theorem own_is_net {f : Addr} {fd : FuncData} (T : Tx K mg) (g_is_among : Q_is_among P w K mg base TT) (g_is_road : Q_is_road P w K mg base TT) (F : Fun K "is_net" "is_net" s_is_net f fd) : FnG P w K mg base (L2.CX P w) 3 f fd ["thing"] (spOf K mg TT false [false] m_is_net) := by
  obtain ⟨f_is_among, fd_is_among, G_is_among, mg_is_among, kp_is_among, b_is_among⟩ := g_is_among.ex
  obtain ⟨f_is_road, fd_is_road, G_is_road, mg_is_road, kp_is_road, b_is_road⟩ := g_is_road.ex
  refine fnD false [false] F sc_is_net rfl ?_
  intro cdv hcv A outer s H E C hT hW hgd hr
  have tk := takes_of (X := cxOf (L2.CX P w) P w K mg base N_is_net "is_net" (defScope s_is_net) f cdv A outer s H E) (E := E) rfl rfl rfl rfl
  have hp := passes_of (X := cxOf (L2.CX P w) P w K mg base N_is_net "is_net" (defScope s_is_net) f cdv A outer s H E) rfl
  exact (fss_cons (fs_if (ft_w (fw_or (ft_not (ft_val (fe_isa (c := "tuple") (by decide) (by rfl) T.n_isinstance (by rfl) T.n_tuple (by decide +kernel) (fe_var 0)))) (fw_or (ft_cmp (o_ne hr.units) (fe_callB c_len (by rfl) T.n_len (by decide +kernel) (fa_cons (fe_var 0) fa_nil)) fe_int (nomark _)) (fw_or1 (ft_not (ft_val (fe_call G_is_among hT hgd (hr.mono (by decide : 1 ≤ 2)) tk (by rfl) mg_is_among kp_is_among b_is_among (fa_cons (fe_ix i_ix (fe_var 0) fe_int (fun _ _ => rfl)) (fa_cons fe_int (fa_cons (fe_globI (by rfl) T.c_MOST_PLACES) fa_nil)))))))))) (fss_one (fs_ret fe_bl)) fss_nil)
      (fss_cons (fs_asg (fe_var 0) (fg_tp rfl (fgs_cons (fg_nm sc_is_net.nd rfl (by first | exact Or.inl rfl | exact Or.inr rfl)) (fgs_cons (fg_nm sc_is_net.nd rfl (by first | exact Or.inl rfl | exact Or.inr rfl)) fgs_nil))))
      (fss_one (fs_ret (fe_and (fe_isa (c := "tuple") (by decide) (by rfl) T.n_isinstance (by rfl) T.n_tuple (by decide +kernel) (fe_var 2)) (fe_and (fe_cmp o_le (fe_callB c_len (by rfl) T.n_len (by decide +kernel) (fa_cons (fe_var 2) fa_nil)) (fe_globI (by rfl) T.c_MOST_ROADS) (nomark _)) (fe_one (fe_callB (c_all rfl) (by rfl) T.n_all (by decide +kernel) (fa_cons (fe_comp (own := [("one", 3)]) rfl sc_is_net.nd (fi_seq (fe_var 2)) (blkOk_by (own := [("one", 3)]) (N := N_is_net) (sc := defScope s_is_net) (by decide +kernel)) (fun _ _ _ _ _ => (fg_nm sc_is_net.nd rfl (by first | exact Or.inl rfl | exact Or.inr rfl))) (fun _ hT1 _ _ _ _ _ => fts_nil) (fun _ hT1 _ _ _ _ _ => (fe_call G_is_road (hT1.trans hT) hgd (hr.mono (by decide : 2 ≤ 2)) takes0 (by rfl) mg_is_road kp_is_road b_is_road (fa_cons (fe_var 3) (fa_cons (fe_var 1) fa_nil))))) fa_nil)))))))))
theorem ok_is_net {f : Addr} {fd : FuncData} (T : Tx K mg) (g_is_among : Q_is_among P w K mg base TT) (g_is_road : Q_is_road P w K mg base TT) (F : Fun K "is_net" "is_net" s_is_net f fd) (hm : mg "is_net" = some (.ref f)) : Q_is_net P w K mg base TT :=
  ⟨⟨f, fd, own_is_net T g_is_among g_is_road F, hm, F.kp, F.binds fun _ _ _ _ _ _ us hl => match us, hl with | [_], _ => rfl⟩⟩
abbrev s_need_net : Stmt := topS 14
abbrev N_need_net : List Str := ["thing"]
theorem sc_need_net : FnScope N_need_net ["thing"] (defScope s_need_net) := ⟨rfl, rfl, rfl, by decide +kernel, rfl, by decide +kernel, by decide +kernel⟩
abbrev Q_need_net (P : Program) (w : World) (K : PySem.W.Frag) (mg : Str → Option Value) (base : Heap) (TT : List (Addr × Str)) : Prop := Cal P w K mg base "need_net" 4 ["thing"] (spOf K mg TT false [false] m_need_net)
theorem own_need_net {f : Addr} {fd : FuncData} (T : Tx K mg) (g_is_net : Q_is_net P w K mg base TT) (F : Fun K "need_net" "need_net" s_need_net f fd) : FnG P w K mg base (L2.CX P w) 4 f fd ["thing"] (spOf K mg TT false [false] m_need_net) := by
  obtain ⟨f_is_net, fd_is_net, G_is_net, mg_is_net, kp_is_net, b_is_net⟩ := g_is_net.ex
  refine fnD false [false] F sc_need_net rfl ?_
  intro cdv hcv A outer s H E C hT hW hgd hr
  have tk := takes_of (X := cxOf (L2.CX P w) P w K mg base N_need_net "need_net" (defScope s_need_net) f cdv A outer s H E) (E := E) rfl rfl rfl rfl
  have hp := passes_of (X := cxOf (L2.CX P w) P w K mg base N_need_net "need_net" (defScope s_need_net) f cdv A outer s H E) rfl
  exact (fss_one (fs_if (ft_not (ft_val (fe_call G_is_net hT hgd (hr.mono (by decide : 3 ≤ 3)) tk (by rfl) mg_is_net kp_is_net b_is_net (fa_cons (fe_var 0) fa_nil)))) (fss_one (fs_raise rfl tk T.x_NoNet.choose_spec (by rfl))) fss_nil))
theorem ok_need_net {f : Addr} {fd : FuncData} (T : Tx K mg) (g_is_net : Q_is_net P w K mg base TT) (F : Fun K "need_net" "need_net" s_need_net f fd) (hm : mg "need_net" = some (.ref f)) : Q_need_net P w K mg base TT :=
  ⟨⟨f, fd, own_need_net T g_is_net F, hm, F.kp, F.binds fun _ _ _ _ _ _ us hl => match us, hl with | [_], _ => rfl⟩⟩
abbrev s_is_place : Stmt := topS 15
abbrev N_is_place : List Str := ["net", "thing"]
theorem sc_is_place : FnScope N_is_place ["net", "thing"] (defScope s_is_place) := ⟨rfl, rfl, rfl, by decide +kernel, rfl, by decide +kernel, by decide +kernel⟩
abbrev Q_is_place (P : Program) (w : World) (K : PySem.W.Frag) (mg : Str → Option Value) (base : Heap) (TT : List (Addr × Str)) : Prop := Cal P w K mg base "is_place" 2 ["net", "thing"] (spOf K mg TT false [false, false] m_is_place)
theorem own_is_place {f : Addr} {fd : FuncData} (T : Tx K mg) (g_is_among : Q_is_among P w K mg base TT) (F : Fun K "is_place" "is_place" s_is_place f fd) : FnG P w K mg base (L2.CX P w) 2 f fd ["net", "thing"] (spOf K mg TT false [false, false] m_is_place) := by
  obtain ⟨f_is_among, fd_is_among, G_is_among, mg_is_among, kp_is_among, b_is_among⟩ := g_is_among.ex
  refine fnD false [false, false] F sc_is_place rfl ?_
  intro cdv hcv A outer s H E C hT hW hgd hr
  have tk := takes_of (X := cxOf (L2.CX P w) P w K mg base N_is_place "is_place" (defScope s_is_place) f cdv A outer s H E) (E := E) rfl rfl rfl rfl
  have hp := passes_of (X := cxOf (L2.CX P w) P w K mg base N_is_place "is_place" (defScope s_is_place) f cdv A outer s H E) rfl
  exact (fss_one (fs_ret (fe_call G_is_among hT hgd (hr.mono (by decide : 1 ≤ 1)) tk (by rfl) mg_is_among kp_is_among b_is_among (fa_cons (fe_var 1) (fa_cons fe_int (fa_cons (fe_op o_sub (fe_ix i_ix (fe_var 0) fe_int (fun _ _ => rfl)) fe_int) fa_nil))))))
theorem ok_is_place {f : Addr} {fd : FuncData} (T : Tx K mg) (g_is_among : Q_is_among P w K mg base TT) (F : Fun K "is_place" "is_place" s_is_place f fd) (hm : mg "is_place" = some (.ref f)) : Q_is_place P w K mg base TT :=
  ⟨⟨f, fd, own_is_place T g_is_among F, hm, F.kp, F.binds fun _ _ _ _ _ _ us hl => match us, hl with | [_, _], _ => rfl⟩⟩
abbrev s_need_place : Stmt := topS 16
abbrev N_need_place : List Str := ["net", "thing"]
theorem sc_need_place : FnScope N_need_place ["net", "thing"] (defScope s_need_place) := ⟨rfl, rfl, rfl, by decide +kernel, rfl, by decide +kernel, by decide +kernel⟩
abbrev Q_need_place (P : Program) (w : World) (K : PySem.W.Frag) (mg : Str → Option Value) (base : Heap) (TT : List (Addr × Str)) : Prop := Cal P w K mg base "need_place" 3 ["net", "thing"] (spOf K mg TT false [false, false] m_need_place)
theorem own_need_place {f : Addr} {fd : FuncData} (T : Tx K mg) (g_is_place : Q_is_place P w K mg base TT) (F : Fun K "need_place" "need_place" s_need_place f fd) : FnG P w K mg base (L2.CX P w) 3 f fd ["net", "thing"] (spOf K mg TT false [false, false] m_need_place) := by
  obtain ⟨f_is_place, fd_is_place, G_is_place, mg_is_place, kp_is_place, b_is_place⟩ := g_is_place.ex
  refine fnD false [false, false] F sc_need_place rfl ?_
  intro cdv hcv A outer s H E C hT hW hgd hr
  have tk := takes_of (X := cxOf (L2.CX P w) P w K mg base N_need_place "need_place" (defScope s_need_place) f cdv A outer s H E) (E := E) rfl rfl rfl rfl
  have hp := passes_of (X := cxOf (L2.CX P w) P w K mg base N_need_place "need_place" (defScope s_need_place) f cdv A outer s H E) rfl
  exact (fss_one (fs_if (ft_not (ft_val (fe_call G_is_place hT hgd (hr.mono (by decide : 2 ≤ 2)) tk (by rfl) mg_is_place kp_is_place b_is_place (fa_cons (fe_var 0) (fa_cons (fe_var 1) fa_nil))))) (fss_one (fs_raise rfl tk T.x_NoPlace.choose_spec (by rfl))) fss_nil))
theorem ok_need_place {f : Addr} {fd : FuncData} (T : Tx K mg) (g_is_place : Q_is_place P w K mg base TT) (F : Fun K "need_place" "need_place" s_need_place f fd) (hm : mg "need_place" = some (.ref f)) : Q_need_place P w K mg base TT :=
  ⟨⟨f, fd, own_need_place T g_is_place F, hm, F.kp, F.binds fun _ _ _ _ _ _ us hl => match us, hl with | [_, _], _ => rfl⟩⟩
abbrev s_need_ends : Stmt := topS 17
abbrev N_need_ends : List Str := ["net", "start", "goal"]
theorem sc_need_ends : FnScope N_need_ends ["net", "start", "goal"] (defScope s_need_ends) := ⟨rfl, rfl, rfl, by decide +kernel, rfl, by decide +kernel, by decide +kernel⟩
abbrev Q_need_ends (P : Program) (w : World) (K : PySem.W.Frag) (mg : Str → Option Value) (base : Heap) (TT : List (Addr × Str)) : Prop := Cal P w K mg base "need_ends" 5 ["net", "start", "goal"] (spOf K mg TT false [false, false, false] m_need_ends)
theorem own_need_ends {f : Addr} {fd : FuncData} (T : Tx K mg) (g_need_net : Q_need_net P w K mg base TT) (g_need_place : Q_need_place P w K mg base TT) (F : Fun K "need_ends" "need_ends" s_need_ends f fd) : FnG P w K mg base (L2.CX P w) 5 f fd ["net", "start", "goal"] (spOf K mg TT false [false, false, false] m_need_ends) := by
  obtain ⟨f_need_net, fd_need_net, G_need_net, mg_need_net, kp_need_net, b_need_net⟩ := g_need_net.ex
  obtain ⟨f_need_place, fd_need_place, G_need_place, mg_need_place, kp_need_place, b_need_place⟩ := g_need_place.ex
  refine fnD false [false, false, false] F sc_need_ends rfl ?_
  intro cdv hcv A outer s H E C hT hW hgd hr
  have tk := takes_of (X := cxOf (L2.CX P w) P w K mg base N_need_ends "need_ends" (defScope s_need_ends) f cdv A outer s H E) (E := E) rfl rfl rfl rfl
  have hp := passes_of (X := cxOf (L2.CX P w) P w K mg base N_need_ends "need_ends" (defScope s_need_ends) f cdv A outer s H E) rfl
  exact (fss_cons (fs_exp (fe_call G_need_net hT hgd (hr.mono (by decide : 4 ≤ 4)) tk (by rfl) mg_need_net kp_need_net b_need_net (fa_cons (fe_var 0) fa_nil)))
      (fss_cons (fs_exp (fe_call G_need_place hT hgd (hr.mono (by decide : 3 ≤ 4)) tk (by rfl) mg_need_place kp_need_place b_need_place (fa_cons (fe_var 0) (fa_cons (fe_var 1) fa_nil))))
      (fss_one (fs_exp (fe_call G_need_place hT hgd (hr.mono (by decide : 3 ≤ 4)) tk (by rfl) mg_need_place kp_need_place b_need_place (fa_cons (fe_var 0) (fa_cons (fe_var 2) fa_nil)))))))
theorem ok_need_ends {f : Addr} {fd : FuncData} (T : Tx K mg) (g_need_net : Q_need_net P w K mg base TT) (g_need_place : Q_need_place P w K mg base TT) (F : Fun K "need_ends" "need_ends" s_need_ends f fd) (hm : mg "need_ends" = some (.ref f)) : Q_need_ends P w K mg base TT :=
  ⟨⟨f, fd, own_need_ends T g_need_net g_need_place F, hm, F.kp, F.binds fun _ _ _ _ _ _ us hl => match us, hl with | [_, _, _], _ => rfl⟩⟩
abbrev s_roads_from : Stmt := topS 18
abbrev N_roads_from : List Str := ["net", "place", "number", "road"]
theorem sc_roads_from : FnScope N_roads_from ["net"] (defScope s_roads_from) := ⟨rfl, rfl, rfl, by decide +kernel, rfl, by decide +kernel, by decide +kernel⟩
abbrev Q_roads_from (P : Program) (w : World) (K : PySem.W.Frag) (mg : Str → Option Value) (base : Heap) (TT : List (Addr × Str)) : Prop := Cal P w K mg base "roads_from" 1 ["net"] (spOf K mg TT false [false] m_roads_from)
theorem own_roads_from {f : Addr} {fd : FuncData} (T : Tx K mg) (F : Fun K "roads_from" "roads_from" s_roads_from f fd) : FnG P w K mg base (L2.CX P w) 1 f fd ["net"] (spOf K mg TT false [false] m_roads_from) := by
  refine fnD false [false] F sc_roads_from rfl ?_
  intro cdv hcv A outer s H E C hT hW hgd hr
  have tk := takes_of (X := cxOf (L2.CX P w) P w K mg base N_roads_from "roads_from" (defScope s_roads_from) f cdv A outer s H E) (E := E) rfl rfl rfl rfl
  have hp := passes_of (X := cxOf (L2.CX P w) P w K mg base N_roads_from "roads_from" (defScope s_roads_from) f cdv A outer s H E) rfl
  exact (fss_one (fs_ret (fe_comp (own := [("place", 1)]) rfl sc_roads_from.nd (fi_rng1 (by rfl) T.n_range (fa_cons (fe_ix i_ix (fe_var 0) fe_int (fun _ _ => rfl)) fa_nil)) (blkOk_by (own := [("place", 1)]) (N := N_roads_from) (sc := defScope s_roads_from) (by decide +kernel)) (fun _ _ _ _ _ => (fg_nm sc_roads_from.nd rfl (by first | exact Or.inl rfl | exact Or.inr rfl))) (fun _ hT1 _ _ _ _ _ => fts_nil) (fun _ hT1 _ _ _ _ _ => (fe_comp (own := [("number", 2), ("road", 3)]) rfl sc_roads_from.nd (fi_enum (by rfl) T.n_enumerate (fa_cons (fe_ix i_ix (fe_var 0) fe_int (fun _ _ => rfl)) fa_nil)) (blkOk_nest (own := [("number", 2), ("road", 3)]) (N := N_roads_from) (o := defScope s_roads_from) rfl rfl (by decide +kernel)) (fun _ _ _ _ _ => (fg_tp rfl (fgs_cons (fg_nm sc_roads_from.nd rfl (by first | exact Or.inl rfl | exact Or.inr rfl)) (fgs_cons (fg_nm sc_roads_from.nd rfl (by first | exact Or.inl rfl | exact Or.inr rfl)) fgs_nil)))) (fun _ hT2 _ _ _ _ _ => (fts_one (ft_cmp (o_eq hr.units) (fe_ix i_ix (fe_var 3) fe_int (fun _ _ => rfl)) (fe_var 1) (nomark _)))) (fun _ hT2 _ _ _ _ _ => (fe_var 2)))))))
theorem ok_roads_from {f : Addr} {fd : FuncData} (T : Tx K mg) (F : Fun K "roads_from" "roads_from" s_roads_from f fd) (hm : mg "roads_from" = some (.ref f)) : Q_roads_from P w K mg base TT :=
  ⟨⟨f, fd, own_roads_from T F, hm, F.kp, F.binds fun _ _ _ _ _ _ us hl => match us, hl with | [_], _ => rfl⟩⟩
abbrev s_pairs_from : Stmt := topS 20
abbrev N_pairs_from : List Str := ["places", "roads", "start", "found", "waiting", "cost", "time", "place", "one", "other", "more", "longer", "row"]
theorem sc_pairs_from : FnScope N_pairs_from ["places", "roads", "start"] (defScope s_pairs_from) := ⟨rfl, rfl, rfl, by decide +kernel, rfl, by decide +kernel, by decide +kernel⟩
abbrev Q_pairs_from (P : Program) (w : World) (K : PySem.W.Frag) (mg : Str → Option Value) (base : Heap) (TT : List (Addr × Str)) : Prop := Cal P w K mg base "pairs_from" 1 ["places", "roads", "start"] (spOf K mg TT false [false, false, false] m_pairs_from)
theorem own_pairs_from {f : Addr} {fd : FuncData} (T : Tx K mg) (F : Fun K "pairs_from" "pairs_from" s_pairs_from f fd) : FnG P w K mg base (L2.CX P w) 1 f fd ["places", "roads", "start"] (spOf K mg TT false [false, false, false] m_pairs_from) := by
  refine fnD false [false, false, false] F sc_pairs_from rfl ?_
  intro cdv hcv A outer s H E C hT hW hgd hr
  have tk := takes_of (X := cxOf (L2.CX P w) P w K mg base N_pairs_from "pairs_from" (defScope s_pairs_from) f cdv A outer s H E) (E := E) rfl rfl rfl rfl
  have hp := passes_of (X := cxOf (L2.CX P w) P w K mg base N_pairs_from "pairs_from" (defScope s_pairs_from) f cdv A outer s H E) rfl
  exact (fss_cons (fs_setLcE (own := [("place", 7)]) (i := 7) (j := 3) rfl sc_pairs_from.nd rfl rfl (sw_true rfl rfl rfl (by decide +kernel)) (fi_rng1 (by rfl) T.n_range (fa_cons (fe_var 0) fa_nil)) (blkOk_by (own := [("place", 7)]) (N := N_pairs_from) (sc := defScope s_pairs_from) (by decide +kernel)) (fun _ _ _ _ _ => (fg_nm sc_pairs_from.nd rfl (by first | exact Or.inl rfl | exact Or.inr rfl))))
      (fss_cons (fs_par (i := 4) (j := 5) rfl sc_pairs_from.nd rfl rfl (by decide) rfl rfl (fa_cons (fe_dil1 (i := 2)) (fa_cons fe_int fa_nil)) (by rfl))
      (fss_cons (fs_while 1000000 hp (ft_cmp (o_neD hr.u65) (fe_var 4) fe_dnil (nomark _)) (fss_cons (fs_for hp rfl (fi_seq (fe_callB (c_sorted hr.u65) (by rfl) T.n_sorted (by decide +kernel) (fa_cons (fe_popL (fe_var 4) (fe_var 5)) fa_nil))) (fg_tp rfl (fgs_cons (fg_nm sc_pairs_from.nd rfl (by first | exact Or.inl rfl | exact Or.inr rfl)) (fgs_cons (fg_nm sc_pairs_from.nd rfl (by first | exact Or.inl rfl | exact Or.inr rfl)) fgs_nil))) (fss_one (fs_if (ft_w (fw_or (ft_cmp (o_eq hr.units) (fe_ixI (fe_var 3) (fe_var 7) (fun _ _ => rfl)) (fe_lst fa_nil) (nomark _)) (fw_or1 (ft_cmp o_lt (fe_var 6) (fe_ix i_ix (fe_ix i_ix (fe_ixI (fe_var 3) (fe_var 7) (fun _ _ => rfl)) (fe_un u_neg fe_int) (fun _ _ => rfl)) fe_int (fun _ _ => rfl)) (nomark _))))) (fss_cons (fs_exp (fe_mt PySem.F.slot_list_append PySem.F.type_list_append m_appI (fe_ixI (fe_var 3) (fe_var 7) (fun _ _ => rfl)) (fa_cons (fe_tup (fa_cons (fe_var 5) (fa_cons (fe_var 6) fa_nil))) fa_nil)))
      (fss_one (fs_for hp rfl (fi_seq (fe_var 1)) (fg_tp rfl (fgs_cons (fg_nm sc_pairs_from.nd rfl (by first | exact Or.inl rfl | exact Or.inr rfl)) (fgs_cons (fg_nm sc_pairs_from.nd rfl (by first | exact Or.inl rfl | exact Or.inr rfl)) (fgs_cons (fg_nm sc_pairs_from.nd rfl (by first | exact Or.inl rfl | exact Or.inr rfl)) (fgs_cons (fg_nm sc_pairs_from.nd rfl (by first | exact Or.inl rfl | exact Or.inr rfl)) fgs_nil))))) (fss_one (fs_if (ft_cmp (o_eq hr.units) (fe_var 8) (fe_var 7) (nomark _)) (fss_one (fs_exp (fe_mt PySem.F.slot_list_append PySem.F.type_list_append m_appD (fe_setL (w := 0) hW (fe_var 4) (fe_op o_add (fe_var 5) (fe_var 10))) (fa_cons (fe_tup (fa_cons (fe_op o_add (fe_var 6) (fe_var 11)) (fa_cons (fe_var 9) fa_nil))) fa_nil)))) fss_nil))))) fss_nil)))
      (fss_one (fs_aug (i := 5) sc_pairs_from.nd rfl (by first | exact Or.inl rfl | exact Or.inr rfl) fe_int io_addI))))
      (fss_one (fs_frz (by rw [hW]; decide) (fs_ret (fe_callTy c_tuple (by rfl) T.n_tuple (by decide +kernel) (fa_cons (fe_comp (own := [("row", 12)]) rfl sc_pairs_from.nd (fi_seq (fe_var 3)) (blkOk_by (own := [("row", 12)]) (N := N_pairs_from) (sc := defScope s_pairs_from) (by decide +kernel)) (fun _ _ _ _ _ => (fg_nm sc_pairs_from.nd rfl (by first | exact Or.inl rfl | exact Or.inr rfl))) (fun _ hT1 _ _ _ _ _ => fts_nil) (fun _ hT1 _ _ _ _ _ => (fe_callTy c_tuple (by rfl) T.n_tuple (by decide +kernel) (fa_cons (fe_var 12) fa_nil)))) fa_nil))))))))
theorem ok_pairs_from {f : Addr} {fd : FuncData} (T : Tx K mg) (F : Fun K "pairs_from" "pairs_from" s_pairs_from f fd) (hm : mg "pairs_from" = some (.ref f)) : Q_pairs_from P w K mg base TT :=
  ⟨⟨f, fd, own_pairs_from T F, hm, F.kp, F.binds fun _ _ _ _ _ _ us hl => match us, hl with | [_, _, _], _ => rfl⟩⟩
abbrev s_turned_about : Stmt := topS 21
abbrev N_turned_about : List Str := ["roads", "one", "other", "cost", "time"]
theorem sc_turned_about : FnScope N_turned_about ["roads"] (defScope s_turned_about) := ⟨rfl, rfl, rfl, by decide +kernel, rfl, by decide +kernel, by decide +kernel⟩
abbrev Q_turned_about (P : Program) (w : World) (K : PySem.W.Frag) (mg : Str → Option Value) (base : Heap) (TT : List (Addr × Str)) : Prop := Cal P w K mg base "turned_about" 1 ["roads"] (spOf K mg TT false [false] m_turned_about)
theorem own_turned_about {f : Addr} {fd : FuncData} (T : Tx K mg) (F : Fun K "turned_about" "turned_about" s_turned_about f fd) : FnG P w K mg base (L2.CX P w) 1 f fd ["roads"] (spOf K mg TT false [false] m_turned_about) := by
  refine fnD false [false] F sc_turned_about rfl ?_
  intro cdv hcv A outer s H E C hT hW hgd hr
  have tk := takes_of (X := cxOf (L2.CX P w) P w K mg base N_turned_about "turned_about" (defScope s_turned_about) f cdv A outer s H E) (E := E) rfl rfl rfl rfl
  have hp := passes_of (X := cxOf (L2.CX P w) P w K mg base N_turned_about "turned_about" (defScope s_turned_about) f cdv A outer s H E) rfl
  exact (fss_one (fs_ret (fe_comp (own := [("one", 1), ("other", 2), ("cost", 3), ("time", 4)]) rfl sc_turned_about.nd (fi_seq (fe_var 0)) (blkOk_by (own := [("one", 1), ("other", 2), ("cost", 3), ("time", 4)]) (N := N_turned_about) (sc := defScope s_turned_about) (by decide +kernel)) (fun _ _ _ _ _ => (fg_tp rfl (fgs_cons (fg_nm sc_turned_about.nd rfl (by first | exact Or.inl rfl | exact Or.inr rfl)) (fgs_cons (fg_nm sc_turned_about.nd rfl (by first | exact Or.inl rfl | exact Or.inr rfl)) (fgs_cons (fg_nm sc_turned_about.nd rfl (by first | exact Or.inl rfl | exact Or.inr rfl)) (fgs_cons (fg_nm sc_turned_about.nd rfl (by first | exact Or.inl rfl | exact Or.inr rfl)) fgs_nil)))))) (fun _ hT1 _ _ _ _ _ => fts_nil) (fun _ hT1 _ _ _ _ _ => (fe_tup (fa_cons (fe_var 2) (fa_cons (fe_var 1) (fa_cons (fe_var 3) (fa_cons (fe_var 4) fa_nil)))))))))
theorem ok_turned_about {f : Addr} {fd : FuncData} (T : Tx K mg) (F : Fun K "turned_about" "turned_about" s_turned_about f fd) (hm : mg "turned_about" = some (.ref f)) : Q_turned_about P w K mg base TT :=
  ⟨⟨f, fd, own_turned_about T F, hm, F.kp, F.binds fun _ _ _ _ _ _ us hl => match us, hl with | [_], _ => rfl⟩⟩
abbrev s_way_with : Stmt := topS 22
abbrev N_way_with : List Str := ["net", "left", "start", "pair", "place", "cost", "time", "found", "ahead", "good", "road", "one", "other", "more", "longer"]
theorem sc_way_with : FnScope N_way_with ["net", "left", "start", "pair"] (defScope s_way_with) := ⟨rfl, rfl, rfl, by decide +kernel, rfl, by decide +kernel, by decide +kernel⟩
abbrev Q_way_with (P : Program) (w : World) (K : PySem.W.Frag) (mg : Str → Option Value) (base : Heap) (TT : List (Addr × Str)) : Prop := Cal P w K mg base "way_with" 2 ["net", "left", "start", "pair"] (spOf K mg TT false [false, false, false, false] m_way_with)
theorem own_way_with {f : Addr} {fd : FuncData} (T : Tx K mg) (g_roads_from : Q_roads_from P w K mg base TT) (F : Fun K "way_with" "way_with" s_way_with f fd) : FnG P w K mg base (L2.CX P w) 2 f fd ["net", "left", "start", "pair"] (spOf K mg TT false [false, false, false, false] m_way_with) := by
  obtain ⟨f_roads_from, fd_roads_from, G_roads_from, mg_roads_from, kp_roads_from, b_roads_from⟩ := g_roads_from.ex
  refine fnD false [false, false, false, false] F sc_way_with rfl ?_
  intro cdv hcv A outer s H E C hT hW hgd hr
  have tk := takes_of (X := cxOf (L2.CX P w) P w K mg base N_way_with "way_with" (defScope s_way_with) f cdv A outer s H E) (E := E) rfl rfl rfl rfl
  have hp := passes_of (X := cxOf (L2.CX P w) P w K mg base N_way_with "way_with" (defScope s_way_with) f cdv A outer s H E) rfl
  exact (fss_cons (fs_parT (fa_cons (fe_var 2) (fa_cons (fe_var 3) (fa_cons (fe_new fa_nil) fa_nil))) (fg_tp rfl (fgs_cons (fg_nm sc_way_with.nd rfl (by first | exact Or.inl rfl | exact Or.inr rfl)) (fgs_cons (fg_tp rfl (fgs_cons (fg_nm sc_way_with.nd rfl (by first | exact Or.inl rfl | exact Or.inr rfl)) (fgs_cons (fg_nm sc_way_with.nd rfl (by first | exact Or.inl rfl | exact Or.inr rfl)) fgs_nil))) (fgs_cons (fg_nm sc_way_with.nd rfl (by first | exact Or.inl rfl | exact Or.inr rfl)) fgs_nil)))))
      (fss_cons (fs_set (i := 8) sc_way_with.nd rfl (by first | exact Or.inl rfl | exact Or.inr rfl) (fe_call G_roads_from hT hgd (hr.mono (by decide : 1 ≤ 1)) tk (by rfl) mg_roads_from kp_roads_from b_roads_from (fa_cons (fe_var 0) fa_nil)))
      (fss_cons (fs_while 1000000 hp (ft_cmp o_gt (fe_var 5) fe_int (nomark _)) (fss_cons (fs_set (i := 9) sc_way_with.nd rfl (by first | exact Or.inl rfl | exact Or.inr rfl) (fe_new fa_nil))
      (fss_cons (fs_for hp rfl (fi_seq (fe_ix i_ix (fe_var 8) (fe_var 4) (fun _ _ => rfl))) (fg_nm sc_way_with.nd rfl (by first | exact Or.inl rfl | exact Or.inr rfl)) (fss_cons (fs_asg (fe_ix i_ix (fe_ix i_ix (fe_var 0) fe_int (fun _ _ => rfl)) (fe_var 10) (fun _ _ => rfl)) (fg_tp rfl (fgs_cons (fg_nm sc_way_with.nd rfl (by first | exact Or.inl rfl | exact Or.inr rfl)) (fgs_cons (fg_nm sc_way_with.nd rfl (by first | exact Or.inl rfl | exact Or.inr rfl)) (fgs_cons (fg_nm sc_way_with.nd rfl (by first | exact Or.inl rfl | exact Or.inr rfl)) (fgs_cons (fg_nm sc_way_with.nd rfl (by first | exact Or.inl rfl | exact Or.inr rfl)) fgs_nil))))))
      (fss_one (fs_if (ft_cmp (o_in hr.u65) (fe_tup (fa_cons (fe_op o_sub (fe_var 5) (fe_var 13)) (fa_cons (fe_op o_sub (fe_var 6) (fe_var 14)) fa_nil))) (fe_ix i_ix (fe_var 1) (fe_var 12) (fun _ _ => rfl)) (by with_unfolding_all rfl)) (fss_one (fs_exp (fe_mt PySem.F.slot_list_append PySem.F.type_list_append m_append (fe_var 9) (fa_cons (fe_var 10) fa_nil)))) fss_nil))))
      (fss_cons (fs_exp (fe_mt PySem.F.slot_list_append PySem.F.type_list_append m_append (fe_var 7) (fa_cons (fe_ix i_ix (fe_var 9) fe_int (fun _ _ => rfl)) fa_nil)))
      (fss_cons (fs_asg (fe_ix i_ix (fe_ix i_ix (fe_var 0) fe_int (fun _ _ => rfl)) (fe_ix i_ix (fe_var 9) fe_int (fun _ _ => rfl)) (fun _ _ => rfl)) (fg_tp rfl (fgs_cons (fg_nm sc_way_with.nd rfl (by first | exact Or.inl rfl | exact Or.inr rfl)) (fgs_cons (fg_nm sc_way_with.nd rfl (by first | exact Or.inl rfl | exact Or.inr rfl)) (fgs_cons (fg_nm sc_way_with.nd rfl (by first | exact Or.inl rfl | exact Or.inr rfl)) (fgs_cons (fg_nm sc_way_with.nd rfl (by first | exact Or.inl rfl | exact Or.inr rfl)) fgs_nil))))))
      (fss_one (fs_par (i := 5) (j := 6) rfl sc_way_with.nd rfl rfl (by decide) rfl rfl (fa_cons (fe_op o_sub (fe_var 5) (fe_var 13)) (fa_cons (fe_op o_sub (fe_var 6) (fe_var 14)) fa_nil)) (by rfl))))))))
      (fss_one (fs_ret (fe_callTy c_tuple (by rfl) T.n_tuple (by decide +kernel) (fa_cons (fe_var 7) fa_nil)))))))
theorem ok_way_with {f : Addr} {fd : FuncData} (T : Tx K mg) (g_roads_from : Q_roads_from P w K mg base TT) (F : Fun K "way_with" "way_with" s_way_with f fd) (hm : mg "way_with" = some (.ref f)) : Q_way_with P w K mg base TT :=
  ⟨⟨f, fd, own_way_with T g_roads_from F, hm, F.kp, F.binds fun _ _ _ _ _ _ us hl => match us, hl with | [_, _, _, _], _ => rfl⟩⟩
abbrev s_front_in : Stmt := topS 23
abbrev N_front_in : List Str := ["net", "start", "goal", "places", "roads", "left", "pair"]
theorem sc_front_in : FnScope N_front_in ["net", "start", "goal"] (defScope s_front_in) := ⟨rfl, rfl, rfl, by decide +kernel, rfl, by decide +kernel, by decide +kernel⟩
abbrev Q_front_in (P : Program) (w : World) (K : PySem.W.Frag) (mg : Str → Option Value) (base : Heap) (TT : List (Addr × Str)) : Prop := Cal P w K mg base "front_in" 3 ["net", "start", "goal"] (spOf K mg TT true [false, false, false] m_front_in)
theorem own_front_in {f : Addr} {fd : FuncData} (T : Tx K mg) (g_pairs_from : Q_pairs_from P w K mg base TT) (g_turned_about : Q_turned_about P w K mg base TT) (g_way_with : Q_way_with P w K mg base TT) (F : Fun K "front_in" "front_in" s_front_in f fd) : FnG P w K mg base (L2.CX P w) 3 f fd ["net", "start", "goal"] (spOf K mg TT true [false, false, false] m_front_in) := by
  obtain ⟨f_pairs_from, fd_pairs_from, G_pairs_from, mg_pairs_from, kp_pairs_from, b_pairs_from⟩ := g_pairs_from.ex
  obtain ⟨f_turned_about, fd_turned_about, G_turned_about, mg_turned_about, kp_turned_about, b_turned_about⟩ := g_turned_about.ex
  obtain ⟨f_way_with, fd_way_with, G_way_with, mg_way_with, kp_way_with, b_way_with⟩ := g_way_with.ex
  refine fnD true [false, false, false] F sc_front_in rfl ?_
  intro cdv hcv A outer s H E C hT hW hgd hr
  have tk := takes_of (X := cxOf (L2.CX P w) P w K mg base N_front_in "front_in" (defScope s_front_in) f cdv A outer s H E) (E := E) rfl rfl rfl rfl
  have hp := passes_of (X := cxOf (L2.CX P w) P w K mg base N_front_in "front_in" (defScope s_front_in) f cdv A outer s H E) rfl
  exact (fss_cons (fs_asg (fe_var 0) (fg_tp rfl (fgs_cons (fg_nm sc_front_in.nd rfl (by first | exact Or.inl rfl | exact Or.inr rfl)) (fgs_cons (fg_nm sc_front_in.nd rfl (by first | exact Or.inl rfl | exact Or.inr rfl)) fgs_nil))))
      (fss_cons (fs_set (i := 5) sc_front_in.nd rfl (by first | exact Or.inl rfl | exact Or.inr rfl) (fe_call G_pairs_from hT hgd (hr.mono (by decide : 1 ≤ 2)) tk (by rfl) mg_pairs_from kp_pairs_from b_pairs_from (fa_cons (fe_var 3) (fa_cons (fe_call G_turned_about hT hgd (hr.mono (by decide : 1 ≤ 2)) tk (by rfl) mg_turned_about kp_turned_about b_turned_about (fa_cons (fe_var 4) fa_nil)) (fa_cons (fe_var 2) fa_nil)))))
      (fss_one (fs_ret (fe_compN (own := [("pair", 6)]) rfl sc_front_in.nd (fi_seq (fe_ix i_ix (fe_var 5) (fe_var 1) (fun _ _ => rfl))) (blkOk_by (own := [("pair", 6)]) (N := N_front_in) (sc := defScope s_front_in) (by decide +kernel)) (fun _ _ _ _ _ => (fg_nm sc_front_in.nd rfl (by first | exact Or.inl rfl | exact Or.inr rfl))) (fun _ hT1 _ _ _ _ _ => fts_nil) (fun _ hT1 _ _ _ _ _ => (fe_op o_add (fe_var 6) (fe_tup (fa_cons (fe_call G_way_with (hT1.trans hT) hgd (hr.mono (by decide : 2 ≤ 2)) takes0 (by rfl) mg_way_with kp_way_with b_way_with (fa_cons (fe_var 0) (fa_cons (fe_var 5) (fa_cons (fe_var 1) (fa_cons (fe_var 6) fa_nil))))) fa_nil)))))))))
theorem ok_front_in {f : Addr} {fd : FuncData} (T : Tx K mg) (g_pairs_from : Q_pairs_from P w K mg base TT) (g_turned_about : Q_turned_about P w K mg base TT) (g_way_with : Q_way_with P w K mg base TT) (F : Fun K "front_in" "front_in" s_front_in f fd) (hm : mg "front_in" = some (.ref f)) : Q_front_in P w K mg base TT :=
  ⟨⟨f, fd, own_front_in T g_pairs_from g_turned_about g_way_with F, hm, F.kp, F.binds fun _ _ _ _ _ _ us hl => match us, hl with | [_, _, _], _ => rfl⟩⟩
abbrev s_front_of : Stmt := topS 24
abbrev N_front_of : List Str := ["net", "start", "goal"]
theorem sc_front_of : FnScope N_front_of ["net", "start", "goal"] (defScope s_front_of) := ⟨rfl, rfl, rfl, by decide +kernel, rfl, by decide +kernel, by decide +kernel⟩
abbrev Q_front_of (P : Program) (w : World) (K : PySem.W.Frag) (mg : Str → Option Value) (base : Heap) (TT : List (Addr × Str)) : Prop := Cal P w K mg base "front_of" 6 ["net", "start", "goal"] (spOf K mg TT true [false, false, false] m_front_of)
theorem own_front_of {f : Addr} {fd : FuncData} (T : Tx K mg) (g_need_ends : Q_need_ends P w K mg base TT) (g_front_in : Q_front_in P w K mg base TT) (F : Fun K "front_of" "front_of" s_front_of f fd) : FnG P w K mg base (L2.CX P w) 6 f fd ["net", "start", "goal"] (spOf K mg TT true [false, false, false] m_front_of) := by
  obtain ⟨f_need_ends, fd_need_ends, G_need_ends, mg_need_ends, kp_need_ends, b_need_ends⟩ := g_need_ends.ex
  obtain ⟨f_front_in, fd_front_in, G_front_in, mg_front_in, kp_front_in, b_front_in⟩ := g_front_in.ex
  refine fnD true [false, false, false] F sc_front_of rfl ?_
  intro cdv hcv A outer s H E C hT hW hgd hr
  have tk := takes_of (X := cxOf (L2.CX P w) P w K mg base N_front_of "front_of" (defScope s_front_of) f cdv A outer s H E) (E := E) rfl rfl rfl rfl
  have hp := passes_of (X := cxOf (L2.CX P w) P w K mg base N_front_of "front_of" (defScope s_front_of) f cdv A outer s H E) rfl
  exact (fss_cons (fs_exp (fe_call G_need_ends hT hgd (hr.mono (by decide : 5 ≤ 5)) tk (by rfl) mg_need_ends kp_need_ends b_need_ends (fa_cons (fe_var 0) (fa_cons (fe_var 1) (fa_cons (fe_var 2) fa_nil)))))
      (fss_one (fs_ret (fe_callN G_front_in hT hgd (hr.mono (by decide : 3 ≤ 5)) tk (by rfl) mg_front_in kp_front_in b_front_in (fa_cons (fe_var 0) (fa_cons (fe_var 1) (fa_cons (fe_var 2) fa_nil)))))))
theorem ok_front_of {f : Addr} {fd : FuncData} (T : Tx K mg) (g_need_ends : Q_need_ends P w K mg base TT) (g_front_in : Q_front_in P w K mg base TT) (F : Fun K "front_of" "front_of" s_front_of f fd) (hm : mg "front_of" = some (.ref f)) : Q_front_of P w K mg base TT :=
  ⟨⟨f, fd, own_front_of T g_need_ends g_front_in F, hm, F.kp, F.binds fun _ _ _ _ _ _ us hl => match us, hl with | [_, _, _], _ => rfl⟩⟩
abbrev s__law_cell_at : Stmt := topS 26
abbrev N__law_cell_at : List Str := ["_law_script", "_law_k"]
theorem sc__law_cell_at : FnScope N__law_cell_at ["_law_script", "_law_k"] (defScope s__law_cell_at) := ⟨rfl, rfl, rfl, by decide +kernel, rfl, by decide +kernel, by decide +kernel⟩
abbrev Q__law_cell_at (P : Program) (w : World) (K : PySem.W.Frag) (mg : Str → Option Value) (base : Heap) (TT : List (Addr × Str)) : Prop := Cal P w K mg base "_law_cell_at" 1 ["_law_script", "_law_k"] (spOf K mg TT false [false, false] m__law_cell_at)
theorem own__law_cell_at {f : Addr} {fd : FuncData} (T : Tx K mg) (F : Fun K "_law_cell_at" "_law_cell_at" s__law_cell_at f fd) : FnG P w K mg base (L2.CX P w) 1 f fd ["_law_script", "_law_k"] (spOf K mg TT false [false, false] m__law_cell_at) := by
  refine fnD false [false, false] F sc__law_cell_at rfl ?_
  intro cdv hcv A outer s H E C hT hW hgd hr
  have tk := takes_of (X := cxOf (L2.CX P w) P w K mg base N__law_cell_at "_law_cell_at" (defScope s__law_cell_at) f cdv A outer s H E) (E := E) rfl rfl rfl rfl
  have hp := passes_of (X := cxOf (L2.CX P w) P w K mg base N__law_cell_at "_law_cell_at" (defScope s__law_cell_at) f cdv A outer s H E) rfl
  exact (fss_cons (fs_if (ft_cmp o_lt (fe_var 1) (fe_callB c_len (by rfl) T.n_len (by decide +kernel) (fa_cons (fe_var 0) fa_nil)) (nomark _)) (fss_one (fs_ret (fe_ix i_ix (fe_var 0) (fe_var 1) (fun _ _ => rfl)))) fss_nil)
      (fss_one (fs_ret fe_int)))
theorem ok__law_cell_at {f : Addr} {fd : FuncData} (T : Tx K mg) (F : Fun K "_law_cell_at" "_law_cell_at" s__law_cell_at f fd) (hm : mg "_law_cell_at" = some (.ref f)) : Q__law_cell_at P w K mg base TT :=
  ⟨⟨f, fd, own__law_cell_at T F, hm, F.kp, F.binds fun _ _ _ _ _ _ us hl => match us, hl with | [_, _], _ => rfl⟩⟩
abbrev s__law_state : Stmt := topS 27
abbrev N__law_state : List Str := ["_law_script", "_law_k", "_law_cell"]
theorem sc__law_state : FnScope N__law_state ["_law_script", "_law_k"] (defScope s__law_state) := ⟨rfl, rfl, rfl, by decide +kernel, rfl, by decide +kernel, by decide +kernel⟩
abbrev Q__law_state (P : Program) (w : World) (K : PySem.W.Frag) (mg : Str → Option Value) (base : Heap) (TT : List (Addr × Str)) : Prop := Cal P w K mg base "_law_state" 2 ["_law_script", "_law_k"] (spOf K mg TT true [false, false] m__law_state)
theorem own__law_state {f : Addr} {fd : FuncData} (T : Tx K mg) (g__law_cell_at : Q__law_cell_at P w K mg base TT) (F : Fun K "_law_state" "_law_state" s__law_state f fd) : FnG P w K mg base (L2.CX P w) 2 f fd ["_law_script", "_law_k"] (spOf K mg TT true [false, false] m__law_state) := by
  obtain ⟨f__law_cell_at, fd__law_cell_at, G__law_cell_at, mg__law_cell_at, kp__law_cell_at, b__law_cell_at⟩ := g__law_cell_at.ex
  refine fnD true [false, false] F sc__law_state rfl ?_
  intro cdv hcv A outer s H E C hT hW hgd hr
  have tk := takes_of (X := cxOf (L2.CX P w) P w K mg base N__law_state "_law_state" (defScope s__law_state) f cdv A outer s H E) (E := E) rfl rfl rfl rfl
  have hp := passes_of (X := cxOf (L2.CX P w) P w K mg base N__law_state "_law_state" (defScope s__law_state) f cdv A outer s H E) rfl
  exact (fss_cons (fs_set (i := 2) sc__law_state.nd rfl (by first | exact Or.inl rfl | exact Or.inr rfl) (fe_call G__law_cell_at hT hgd (hr.mono (by decide : 1 ≤ 1)) tk (by rfl) mg__law_cell_at kp__law_cell_at b__law_cell_at (fa_cons (fe_var 0) (fa_cons (fe_var 1) fa_nil))))
      (fss_one (fs_ret (fe_new (fa_cons (fe_callB (c_max2 rfl) (by rfl) T.n_max (by decide +kernel) (fa_cons fe_int (fa_cons (fe_op o_sub (fe_var 2) (fe_op o_pow fe_int fe_int)) fa_nil))) (fa_cons (fe_op o_mod (fe_var 2) fe_int) fa_nil))))))
theorem ok__law_state {f : Addr} {fd : FuncData} (T : Tx K mg) (g__law_cell_at : Q__law_cell_at P w K mg base TT) (F : Fun K "_law_state" "_law_state" s__law_state f fd) (hm : mg "_law_state" = some (.ref f)) : Q__law_state P w K mg base TT :=
  ⟨⟨f, fd, own__law_state T g__law_cell_at F, hm, F.kp, F.binds fun _ _ _ _ _ _ us hl => match us, hl with | [_, _], _ => rfl⟩⟩
abbrev s__law_take : Stmt := topS 28
abbrev N__law_take : List Str := ["_law_state_here", "_law_far", "_law_found", "_law_stirred"]
theorem sc__law_take : FnScope N__law_take ["_law_state_here", "_law_far"] (defScope s__law_take) := ⟨rfl, rfl, rfl, by decide +kernel, rfl, by decide +kernel, by decide +kernel⟩
abbrev Q__law_take (P : Program) (w : World) (K : PySem.W.Frag) (mg : Str → Option Value) (base : Heap) (TT : List (Addr × Str)) : Prop := Cal P w K mg base "_law_take" 1 ["_law_state_here", "_law_far"] (spOf K mg TT false [true, false] m__law_take)
theorem own__law_take {f : Addr} {fd : FuncData} (T : Tx K mg) (F : Fun K "_law_take" "_law_take" s__law_take f fd) : FnG P w K mg base (L2.CX P w) 1 f fd ["_law_state_here", "_law_far"] (spOf K mg TT false [true, false] m__law_take) := by
  refine fnD false [true, false] F sc__law_take rfl ?_
  intro cdv hcv A outer s H E C hT hW hgd hr
  have tk := takes_of (X := cxOf (L2.CX P w) P w K mg base N__law_take "_law_take" (defScope s__law_take) f cdv A outer s H E) (E := E) rfl rfl rfl rfl
  have hp := passes_of (X := cxOf (L2.CX P w) P w K mg base N__law_take "_law_take" (defScope s__law_take) f cdv A outer s H E) rfl
  exact (fss_cons (fs_if (ft_cmp o_gt (fe_ix i_ix (fe_var 0) fe_int (fun _ _ => rfl)) fe_int (nomark _)) (fss_cons (fs_set (i := 2) sc__law_take.nd rfl (by first | exact Or.inl rfl | exact Or.inr rfl) (fe_op o_mod (fe_ix i_ix (fe_var 0) fe_int (fun _ _ => rfl)) (fe_var 1)))
      (fss_cons (fs_put (fe_var 0) fe_int (fe_op o_div (fe_ix i_ix (fe_var 0) fe_int (fun _ _ => rfl)) (fe_var 1)))
      (fss_one (fs_ret (fe_var 2))))) fss_nil)
      (fss_cons (fs_put (fe_var 0) fe_int (fe_op o_mod (fe_op o_add (fe_op o_mul (fe_ix i_ix (fe_var 0) fe_int (fun _ _ => rfl)) fe_int) fe_int) fe_int))
      (fss_cons (fs_set (i := 3) sc__law_take.nd rfl (by first | exact Or.inl rfl | exact Or.inr rfl) (fe_op o_mod (fe_op o_add (fe_op o_add (fe_op o_mul (fe_ix i_ix (fe_var 0) fe_int (fun _ _ => rfl)) (fe_ix i_ix (fe_var 0) fe_int (fun _ _ => rfl))) (fe_op o_mul fe_int (fe_ix i_ix (fe_var 0) fe_int (fun _ _ => rfl)))) fe_int) fe_int))
      (fss_cons (fs_set (i := 3) sc__law_take.nd rfl (by first | exact Or.inl rfl | exact Or.inr rfl) (fe_op o_mod (fe_op o_add (fe_op o_mul (fe_var 3) (fe_var 3)) (fe_op o_mul fe_int (fe_var 3))) fe_int))
      (fss_one (fs_ret (fe_op o_mod (fe_op o_div (fe_var 3) fe_int) (fe_var 1))))))))
theorem ok__law_take {f : Addr} {fd : FuncData} (T : Tx K mg) (F : Fun K "_law_take" "_law_take" s__law_take f fd) (hm : mg "_law_take" = some (.ref f)) : Q__law_take P w K mg base TT :=
  ⟨⟨f, fd, own__law_take T F, hm, F.kp, F.binds fun _ _ _ _ _ _ us hl => match us, hl with | [_, _], _ => rfl⟩⟩
abbrev s__law_number : Stmt := topS 29
abbrev N__law_number : List Str := ["_law_thing", "_law_least", "_law_most"]
theorem sc__law_number : FnScope N__law_number ["_law_thing", "_law_least", "_law_most"] (defScope s__law_number) := ⟨rfl, rfl, rfl, by decide +kernel, rfl, by decide +kernel, by decide +kernel⟩
abbrev Q__law_number (P : Program) (w : World) (K : PySem.W.Frag) (mg : Str → Option Value) (base : Heap) (TT : List (Addr × Str)) : Prop := Cal P w K mg base "_law_number" 1 ["_law_thing", "_law_least", "_law_most"] (spOf K mg TT false [false, false, false] m__law_number)
theorem own__law_number {f : Addr} {fd : FuncData} (T : Tx K mg) (F : Fun K "_law_number" "_law_number" s__law_number f fd) : FnG P w K mg base (L2.CX P w) 1 f fd ["_law_thing", "_law_least", "_law_most"] (spOf K mg TT false [false, false, false] m__law_number) := by
  refine fnD false [false, false, false] F sc__law_number rfl ?_
  intro cdv hcv A outer s H E C hT hW hgd hr
  have tk := takes_of (X := cxOf (L2.CX P w) P w K mg base N__law_number "_law_number" (defScope s__law_number) f cdv A outer s H E) (E := E) rfl rfl rfl rfl
  have hp := passes_of (X := cxOf (L2.CX P w) P w K mg base N__law_number "_law_number" (defScope s__law_number) f cdv A outer s H E) rfl
  exact (fss_one (fs_ret (fe_and (fe_isa (c := "int") (by decide) (by rfl) T.n_isinstance (by rfl) T.n_int (by decide +kernel) (fe_var 0)) (fe_and (fe_not (fe_isa (c := "bool") (by decide) (by rfl) T.n_isinstance (by rfl) T.n_bool (by decide +kernel) (fe_var 0))) (fe_one (fe_chain o_le o_le (fe_var 1) (fe_var 0) (fe_var 2)))))))
theorem ok__law_number {f : Addr} {fd : FuncData} (T : Tx K mg) (F : Fun K "_law_number" "_law_number" s__law_number f fd) (hm : mg "_law_number" = some (.ref f)) : Q__law_number P w K mg base TT :=
  ⟨⟨f, fd, own__law_number T F, hm, F.kp, F.binds fun _ _ _ _ _ _ us hl => match us, hl with | [_, _, _], _ => rfl⟩⟩
abbrev s__law_net : Stmt := topS 30
abbrev N__law_net : List Str := ["_law_state_here", "_law_most", "_law_far", "_law_places", "_law_roads", "_law_turn", "_law_one", "_law_other", "_law_cost", "_law_time"]
theorem sc__law_net : FnScope N__law_net ["_law_state_here", "_law_most", "_law_far"] (defScope s__law_net) := ⟨rfl, rfl, rfl, by decide +kernel, rfl, by decide +kernel, by decide +kernel⟩
abbrev Q__law_net (P : Program) (w : World) (K : PySem.W.Frag) (mg : Str → Option Value) (base : Heap) (TT : List (Addr × Str)) : Prop := Cal P w K mg base "_law_net" 2 ["_law_state_here", "_law_most", "_law_far"] (spOf K mg TT false [true, false, false] m__law_net)
theorem own__law_net {f : Addr} {fd : FuncData} (T : Tx K mg) (g__law_take : Q__law_take P w K mg base TT) (F : Fun K "_law_net" "_law_net" s__law_net f fd) : FnG P w K mg base (L2.CX P w) 2 f fd ["_law_state_here", "_law_most", "_law_far"] (spOf K mg TT false [true, false, false] m__law_net) := by
  obtain ⟨f__law_take, fd__law_take, G__law_take, mg__law_take, kp__law_take, b__law_take⟩ := g__law_take.ex
  refine fnD false [true, false, false] F sc__law_net rfl ?_
  intro cdv hcv A outer s H E C hT hW hgd hr
  have tk := takes_of (X := cxOf (L2.CX P w) P w K mg base N__law_net "_law_net" (defScope s__law_net) f cdv A outer s H E) (E := E) rfl rfl rfl rfl
  have hp := passes_of (X := cxOf (L2.CX P w) P w K mg base N__law_net "_law_net" (defScope s__law_net) f cdv A outer s H E) rfl
  exact (fss_cons (fs_par (i := 3) (j := 4) rfl sc__law_net.nd rfl rfl (by decide) rfl rfl (fa_cons (fe_op o_add fe_int (fe_call G__law_take hT hgd (hr.mono (by decide : 1 ≤ 1)) tk (by rfl) mg__law_take kp__law_take b__law_take (fa_cons (fe_var 0) (fa_cons (fe_var 1) fa_nil)))) (fa_cons (fe_new fa_nil) fa_nil)) (by rfl))
      (fss_cons (fs_for hp rfl (fi_rng1 (by rfl) T.n_range (fa_cons (fe_op o_mul (fe_call G__law_take hT hgd (hr.mono (by decide : 1 ≤ 1)) tk (by rfl) mg__law_take kp__law_take b__law_take (fa_cons (fe_var 0) (fa_cons (fe_op o_add (fe_var 2) fe_int) fa_nil))) (fe_callTy c_int (by rfl) T.n_int (by decide +kernel) (fa_cons (fe_cmp o_gt (fe_var 3) fe_int (nomark _)) fa_nil))) fa_nil)) (fg_nm sc__law_net.nd rfl (by first | exact Or.inl rfl | exact Or.inr rfl)) (fss_cons (fs_set (i := 6) sc__law_net.nd rfl (by first | exact Or.inl rfl | exact Or.inr rfl) (fe_ix i_ix (fe_lst (fa_cons (fe_call G__law_take hT hgd (hr.mono (by decide : 1 ≤ 1)) tk (by rfl) mg__law_take kp__law_take b__law_take (fa_cons (fe_var 0) (fa_cons (fe_var 3) fa_nil))) (fa_cons (fe_callB (c_min2 rfl) (by rfl) T.n_min (by decide +kernel) (fa_cons (fe_var 5) (fa_cons (fe_op o_sub (fe_var 3) fe_int) fa_nil))) fa_nil))) (fe_call G__law_take hT hgd (hr.mono (by decide : 1 ≤ 1)) tk (by rfl) mg__law_take kp__law_take b__law_take (fa_cons (fe_var 0) (fa_cons fe_int fa_nil))) (fun _ _ => rfl)))
      (fss_cons (fs_set (i := 7) sc__law_net.nd rfl (by first | exact Or.inl rfl | exact Or.inr rfl) (fe_op o_mod (fe_op o_add (fe_op o_add (fe_var 6) fe_int) (fe_ix i_ix (fe_lst (fa_cons fe_int (fa_cons (fe_call G__law_take hT hgd (hr.mono (by decide : 1 ≤ 1)) tk (by rfl) mg__law_take kp__law_take b__law_take (fa_cons (fe_var 0) (fa_cons (fe_op o_sub (fe_var 3) fe_int) fa_nil))) fa_nil))) (fe_call G__law_take hT hgd (hr.mono (by decide : 1 ≤ 1)) tk (by rfl) mg__law_take kp__law_take b__law_take (fa_cons (fe_var 0) (fa_cons fe_int fa_nil))) (fun _ _ => rfl))) (fe_var 3)))
      (fss_cons (fs_set (i := 8) sc__law_net.nd rfl (by first | exact Or.inl rfl | exact Or.inr rfl) (fe_ix i_ix (fe_lst (fa_cons (fe_op o_add fe_int (fe_call G__law_take hT hgd (hr.mono (by decide : 1 ≤ 1)) tk (by rfl) mg__law_take kp__law_take b__law_take (fa_cons (fe_var 0) (fa_cons fe_int fa_nil)))) (fa_cons (fe_op o_add fe_int (fe_call G__law_take hT hgd (hr.mono (by decide : 1 ≤ 1)) tk (by rfl) mg__law_take kp__law_take b__law_take (fa_cons (fe_var 0) (fa_cons fe_int fa_nil)))) (fa_cons fe_int fa_nil)))) (fe_call G__law_take hT hgd (hr.mono (by decide : 1 ≤ 1)) tk (by rfl) mg__law_take kp__law_take b__law_take (fa_cons (fe_var 0) (fa_cons fe_int fa_nil))) (fun _ _ => rfl)))
      (fss_cons (fs_set (i := 9) sc__law_net.nd rfl (by first | exact Or.inl rfl | exact Or.inr rfl) (fe_ix i_ix (fe_lst (fa_cons (fe_call G__law_take hT hgd (hr.mono (by decide : 1 ≤ 1)) tk (by rfl) mg__law_take kp__law_take b__law_take (fa_cons (fe_var 0) (fa_cons fe_int fa_nil))) (fa_cons (fe_call G__law_take hT hgd (hr.mono (by decide : 1 ≤ 1)) tk (by rfl) mg__law_take kp__law_take b__law_take (fa_cons (fe_var 0) (fa_cons fe_int fa_nil))) (fa_cons fe_int fa_nil)))) (fe_call G__law_take hT hgd (hr.mono (by decide : 1 ≤ 1)) tk (by rfl) mg__law_take kp__law_take b__law_take (fa_cons (fe_var 0) (fa_cons fe_int fa_nil))) (fun _ _ => rfl)))
      (fss_one (fs_exp (fe_mt PySem.F.slot_list_append PySem.F.type_list_append m_append (fe_var 4) (fa_cons (fe_tup (fa_cons (fe_var 6) (fa_cons (fe_var 7) (fa_cons (fe_var 8) (fa_cons (fe_var 9) fa_nil))))) fa_nil)))))))))
      (fss_one (fs_ret (fe_tup (fa_cons (fe_var 3) (fa_cons (fe_callTy c_tuple (by rfl) T.n_tuple (by decide +kernel) (fa_cons (fe_var 4) fa_nil)) fa_nil)))))))
theorem ok__law_net {f : Addr} {fd : FuncData} (T : Tx K mg) (g__law_take : Q__law_take P w K mg base TT) (F : Fun K "_law_net" "_law_net" s__law_net f fd) (hm : mg "_law_net" = some (.ref f)) : Q__law_net P w K mg base TT :=
  ⟨⟨f, fd, own__law_net T g__law_take F, hm, F.kp, F.binds fun _ _ _ _ _ _ us hl => match us, hl with | [_, _, _], _ => rfl⟩⟩
abbrev s__law_joins : Stmt := topS 31
abbrev N__law_joins : List Str := ["_law_net_here", "_law_found", "_law_number_here", "_law_road", "_law_place"]
theorem sc__law_joins : FnScope N__law_joins ["_law_net_here"] (defScope s__law_joins) := ⟨rfl, rfl, rfl, by decide +kernel, rfl, by decide +kernel, by decide +kernel⟩
abbrev Q__law_joins (P : Program) (w : World) (K : PySem.W.Frag) (mg : Str → Option Value) (base : Heap) (TT : List (Addr × Str)) : Prop := Cal P w K mg base "_law_joins" 1 ["_law_net_here"] (spOf K mg TT false [false] m__law_joins)
theorem own__law_joins {f : Addr} {fd : FuncData} (T : Tx K mg) (F : Fun K "_law_joins" "_law_joins" s__law_joins f fd) : FnG P w K mg base (L2.CX P w) 1 f fd ["_law_net_here"] (spOf K mg TT false [false] m__law_joins) := by
  refine fnD false [false] F sc__law_joins rfl ?_
  intro cdv hcv A outer s H E C hT hW hgd hr
  have tk := takes_of (X := cxOf (L2.CX P w) P w K mg base N__law_joins "_law_joins" (defScope s__law_joins) f cdv A outer s H E) (E := E) rfl rfl rfl rfl
  have hp := passes_of (X := cxOf (L2.CX P w) P w K mg base N__law_joins "_law_joins" (defScope s__law_joins) f cdv A outer s H E) rfl
  exact (fss_cons (fs_setLcE (own := [("_law_place", 4)]) (i := 4) (j := 1) rfl sc__law_joins.nd rfl rfl (sw_true rfl rfl rfl (by decide +kernel)) (fi_rng1 (by rfl) T.n_range (fa_cons (fe_ix i_ix (fe_var 0) fe_int (fun _ _ => rfl)) fa_nil)) (blkOk_by (own := [("_law_place", 4)]) (N := N__law_joins) (sc := defScope s__law_joins) (by decide +kernel)) (fun _ _ _ _ _ => (fg_nm sc__law_joins.nd rfl (by first | exact Or.inl rfl | exact Or.inr rfl))))
      (fss_cons (fs_for hp rfl (fi_enum (by rfl) T.n_enumerate (fa_cons (fe_ix i_ix (fe_var 0) fe_int (fun _ _ => rfl)) fa_nil)) (fg_tp rfl (fgs_cons (fg_nm sc__law_joins.nd rfl (by first | exact Or.inl rfl | exact Or.inr rfl)) (fgs_cons (fg_nm sc__law_joins.nd rfl (by first | exact Or.inl rfl | exact Or.inr rfl)) fgs_nil))) (fss_one (fs_exp (fe_mt PySem.F.slot_list_append PySem.F.type_list_append m_appI (fe_ixI (fe_var 1) (fe_ix i_ix (fe_var 3) fe_int (fun _ _ => rfl)) (fun _ _ => rfl)) (fa_cons (fe_op o_add (fe_tup (fa_cons (fe_var 2) fa_nil)) (fe_slice (fe_var 3) (fo_some fe_int) fo_none)) fa_nil)))))
      (fss_one (fs_ret (fe_var 1)))))
theorem ok__law_joins {f : Addr} {fd : FuncData} (T : Tx K mg) (F : Fun K "_law_joins" "_law_joins" s__law_joins f fd) (hm : mg "_law_joins" = some (.ref f)) : Q__law_joins P w K mg base TT :=
  ⟨⟨f, fd, own__law_joins T F, hm, F.kp, F.binds fun _ _ _ _ _ _ us hl => match us, hl with | [_], _ => rfl⟩⟩
abbrev s__law_came : Stmt := topS 32
abbrev N__law_came : List Str := ["_law_net_here", "_law_place", "_law_thing", "_law_cost", "_law_time", "_law_road", "_law_one", "_law_more", "_law_longer"]
theorem sc__law_came : FnScope N__law_came ["_law_net_here", "_law_place", "_law_thing"] (defScope s__law_came) := ⟨rfl, rfl, rfl, by decide +kernel, rfl, by decide +kernel, by decide +kernel⟩
abbrev Q__law_came (P : Program) (w : World) (K : PySem.W.Frag) (mg : Str → Option Value) (base : Heap) (TT : List (Addr × Str)) : Prop := Cal P w K mg base "_law_came" 2 ["_law_net_here", "_law_place", "_law_thing"] (spOf K mg TT false [false, false, false] m__law_came)
theorem own__law_came {f : Addr} {fd : FuncData} (T : Tx K mg) (g__law_number : Q__law_number P w K mg base TT) (F : Fun K "_law_came" "_law_came" s__law_came f fd) : FnG P w K mg base (L2.CX P w) 2 f fd ["_law_net_here", "_law_place", "_law_thing"] (spOf K mg TT false [false, false, false] m__law_came) := by
  obtain ⟨f__law_number, fd__law_number, G__law_number, mg__law_number, kp__law_number, b__law_number⟩ := g__law_number.ex
  refine fnD false [false, false, false] F sc__law_came rfl ?_
  intro cdv hcv A outer s H E C hT hW hgd hr
  have tk := takes_of (X := cxOf (L2.CX P w) P w K mg base N__law_came "_law_came" (defScope s__law_came) f cdv A outer s H E) (E := E) rfl rfl rfl rfl
  have hp := passes_of (X := cxOf (L2.CX P w) P w K mg base N__law_came "_law_came" (defScope s__law_came) f cdv A outer s H E) rfl
  exact (fss_cons (fs_asg (fe_tup (fa_cons fe_int (fa_cons fe_int fa_nil))) (fg_tp rfl (fgs_cons (fg_nm sc__law_came.nd rfl (by first | exact Or.inl rfl | exact Or.inr rfl)) (fgs_cons (fg_nm sc__law_came.nd rfl (by first | exact Or.inl rfl | exact Or.inr rfl)) fgs_nil))))
      (fss_cons (fs_if (ft_not (ft_val (fe_isa (c := "tuple") (by decide) (by rfl) T.n_isinstance (by rfl) T.n_tuple (by decide +kernel) (fe_var 2)))) (fss_one (fs_ret fe_non)) fss_nil)
      (fss_cons (fs_for hp rfl (fi_seq (fe_var 2)) (fg_nm sc__law_came.nd rfl (by first | exact Or.inl rfl | exact Or.inr rfl)) (fss_cons (fs_if (ft_w (fw_or (ft_not (ft_val (fe_call G__law_number hT hgd (hr.mono (by decide : 1 ≤ 1)) tk (by rfl) mg__law_number kp__law_number b__law_number (fa_cons (fe_var 5) (fa_cons fe_int (fa_cons (fe_op o_sub (fe_callB c_len (by rfl) T.n_len (by decide +kernel) (fa_cons (fe_ix i_ix (fe_var 0) fe_int (fun _ _ => rfl)) fa_nil)) fe_int) fa_nil)))))) (fw_or1 (ft_cmp (o_ne hr.units) (fe_ix i_ix (fe_ix i_ix (fe_ix i_ix (fe_var 0) fe_int (fun _ _ => rfl)) (fe_var 5) (fun _ _ => rfl)) fe_int (fun _ _ => rfl)) (fe_var 1) (nomark _))))) (fss_one (fs_ret fe_non)) fss_nil)
      (fss_cons (fs_asg (fe_ix i_ix (fe_ix i_ix (fe_var 0) fe_int (fun _ _ => rfl)) (fe_var 5) (fun _ _ => rfl)) (fg_tp rfl (fgs_cons (fg_nm sc__law_came.nd rfl (by first | exact Or.inl rfl | exact Or.inr rfl)) (fgs_cons (fg_nm sc__law_came.nd rfl (by first | exact Or.inl rfl | exact Or.inr rfl)) (fgs_cons (fg_nm sc__law_came.nd rfl (by first | exact Or.inl rfl | exact Or.inr rfl)) (fgs_cons (fg_nm sc__law_came.nd rfl (by first | exact Or.inl rfl | exact Or.inr rfl)) fgs_nil))))))
      (fss_one (fs_par (i := 3) (j := 4) rfl sc__law_came.nd rfl rfl (by decide) rfl rfl (fa_cons (fe_op o_add (fe_var 3) (fe_var 7)) (fa_cons (fe_op o_add (fe_var 4) (fe_var 8)) fa_nil)) (by rfl))))))
      (fss_one (fs_ret (fe_tup (fa_cons (fe_var 1) (fa_cons (fe_var 3) (fa_cons (fe_var 4) fa_nil)))))))))
theorem ok__law_came {f : Addr} {fd : FuncData} (T : Tx K mg) (g__law_number : Q__law_number P w K mg base TT) (F : Fun K "_law_came" "_law_came" s__law_came f fd) (hm : mg "_law_came" = some (.ref f)) : Q__law_came P w K mg base TT :=
  ⟨⟨f, fd, own__law_came T g__law_number F, hm, F.kp, F.binds fun _ _ _ _ _ _ us hl => match us, hl with | [_, _, _], _ => rfl⟩⟩
abbrev s__law_simple : Stmt := topS 33
abbrev N__law_simple : List Str := ["_law_net_here", "_law_start", "_law_goal", "_law_joins_here", "_law_rows", "_law_found", "_law_way", "_law_place", "_law_seen", "_law_cost", "_law_number_here", "_law_other", "_law_more", "_law_longer"]
theorem sc__law_simple : FnScope N__law_simple ["_law_net_here", "_law_start", "_law_goal"] (defScope s__law_simple) := ⟨rfl, rfl, rfl, by decide +kernel, rfl, by decide +kernel, by decide +kernel⟩
abbrev Q__law_simple (P : Program) (w : World) (K : PySem.W.Frag) (mg : Str → Option Value) (base : Heap) (TT : List (Addr × Str)) : Prop := Cal P w K mg base "_law_simple" 2 ["_law_net_here", "_law_start", "_law_goal"] (spOf K mg TT false [false, false, false] m__law_simple)
theorem own__law_simple {f : Addr} {fd : FuncData} (T : Tx K mg) (g__law_joins : Q__law_joins P w K mg base TT) (F : Fun K "_law_simple" "_law_simple" s__law_simple f fd) : FnG P w K mg base (L2.CX P w) 2 f fd ["_law_net_here", "_law_start", "_law_goal"] (spOf K mg TT false [false, false, false] m__law_simple) := by
  obtain ⟨f__law_joins, fd__law_joins, G__law_joins, mg__law_joins, kp__law_joins, b__law_joins⟩ := g__law_joins.ex
  refine fnD false [false, false, false] F sc__law_simple rfl ?_
  intro cdv hcv A outer s H E C hT hW hgd hr
  have tk := takes_of (X := cxOf (L2.CX P w) P w K mg base N__law_simple "_law_simple" (defScope s__law_simple) f cdv A outer s H E) (E := E) rfl rfl rfl rfl
  have hp := passes_of (X := cxOf (L2.CX P w) P w K mg base N__law_simple "_law_simple" (defScope s__law_simple) f cdv A outer s H E) rfl
  exact (fss_cons (fs_par3 (i := 3) (j := 4) (l := 5) rfl sc__law_simple.nd rfl rfl rfl (by decide) (by decide) (by decide) rfl rfl rfl (fa_cons (fe_call G__law_joins hT hgd (hr.mono (by decide : 1 ≤ 1)) tk (by rfl) mg__law_joins kp__law_joins b__law_joins (fa_cons (fe_var 0) fa_nil)) (fa_cons (fe_new (fa_cons (fe_tup (fa_cons (fe_tup fa_nil) (fa_cons (fe_var 1) (fa_cons (fe_tup (fa_cons (fe_var 1) fa_nil)) (fa_cons fe_int fa_nil))))) fa_nil)) (fa_cons (fe_new fa_nil) fa_nil))) (by rfl))
      (fss_cons (fs_while 1000000 hp (ft_cmp (o_ne hr.units) (fe_var 4) (fe_lst fa_nil) (nomark _)) (fss_cons (fs_asg (fe_mt0 PySem.F.slot_list_pop PySem.F.type_list_pop m_pop (fe_var 4)) (fg_tp rfl (fgs_cons (fg_nm sc__law_simple.nd rfl (by first | exact Or.inl rfl | exact Or.inr rfl)) (fgs_cons (fg_nm sc__law_simple.nd rfl (by first | exact Or.inl rfl | exact Or.inr rfl)) (fgs_cons (fg_nm sc__law_simple.nd rfl (by first | exact Or.inl rfl | exact Or.inr rfl)) (fgs_cons (fg_nm sc__law_simple.nd rfl (by first | exact Or.inl rfl | exact Or.inr rfl)) fgs_nil))))))
      (fss_one (fs_if (ft_cmp (o_eq hr.units) (fe_var 7) (fe_var 2) (nomark _)) (fss_one (fs_exp (fe_mt PySem.F.slot_list_append PySem.F.type_list_append m_append (fe_var 5) (fa_cons (fe_tup (fa_cons (fe_var 9) (fa_cons (fe_var 6) fa_nil))) fa_nil)))) (fss_one (fs_for hp rfl (fi_seq (fe_ix i_ix (fe_var 3) (fe_var 7) (fun _ _ => rfl))) (fg_tp rfl (fgs_cons (fg_nm sc__law_simple.nd rfl (by first | exact Or.inl rfl | exact Or.inr rfl)) (fgs_cons (fg_nm sc__law_simple.nd rfl (by first | exact Or.inl rfl | exact Or.inr rfl)) (fgs_cons (fg_nm sc__law_simple.nd rfl (by first | exact Or.inl rfl | exact Or.inr rfl)) (fgs_cons (fg_nm sc__law_simple.nd rfl (by first | exact Or.inl rfl | exact Or.inr rfl)) fgs_nil))))) (fss_one (fs_if (ft_cmp (o_notin hr.u65) (fe_var 11) (fe_var 8) (by with_unfolding_all rfl)) (fss_one (fs_exp (fe_mt PySem.F.slot_list_append PySem.F.type_list_append m_append (fe_var 4) (fa_cons (fe_tup (fa_cons (fe_op o_add (fe_var 6) (fe_tup (fa_cons (fe_var 10) fa_nil))) (fa_cons (fe_var 11) (fa_cons (fe_op o_add (fe_var 8) (fe_tup (fa_cons (fe_var 11) fa_nil))) (fa_cons (fe_op o_add (fe_var 9) (fe_var 12)) fa_nil))))) fa_nil)))) fss_nil))))))))
      (fss_one (fs_ret (fe_callB (c_sorted hr.u65) (by rfl) T.n_sorted (by decide +kernel) (fa_cons (fe_var 5) fa_nil))))))
theorem ok__law_simple {f : Addr} {fd : FuncData} (T : Tx K mg) (g__law_joins : Q__law_joins P w K mg base TT) (F : Fun K "_law_simple" "_law_simple" s__law_simple f fd) (hm : mg "_law_simple" = some (.ref f)) : Q__law_simple P w K mg base TT :=
  ⟨⟨f, fd, own__law_simple T g__law_joins F, hm, F.kp, F.binds fun _ _ _ _ _ _ us hl => match us, hl with | [_, _, _], _ => rfl⟩⟩
abbrev s__law_ends : Stmt := topS 34
abbrev N__law_ends : List Str := ["_law_state_here", "_law_net_here", "_law_start"]
theorem sc__law_ends : FnScope N__law_ends ["_law_state_here", "_law_net_here"] (defScope s__law_ends) := ⟨rfl, rfl, rfl, by decide +kernel, rfl, by decide +kernel, by decide +kernel⟩
abbrev Q__law_ends (P : Program) (w : World) (K : PySem.W.Frag) (mg : Str → Option Value) (base : Heap) (TT : List (Addr × Str)) : Prop := Cal P w K mg base "_law_ends" 2 ["_law_state_here", "_law_net_here"] (spOf K mg TT false [true, false] m__law_ends)
theorem own__law_ends {f : Addr} {fd : FuncData} (T : Tx K mg) (g__law_take : Q__law_take P w K mg base TT) (F : Fun K "_law_ends" "_law_ends" s__law_ends f fd) : FnG P w K mg base (L2.CX P w) 2 f fd ["_law_state_here", "_law_net_here"] (spOf K mg TT false [true, false] m__law_ends) := by
  obtain ⟨f__law_take, fd__law_take, G__law_take, mg__law_take, kp__law_take, b__law_take⟩ := g__law_take.ex
  refine fnD false [true, false] F sc__law_ends rfl ?_
  intro cdv hcv A outer s H E C hT hW hgd hr
  have tk := takes_of (X := cxOf (L2.CX P w) P w K mg base N__law_ends "_law_ends" (defScope s__law_ends) f cdv A outer s H E) (E := E) rfl rfl rfl rfl
  have hp := passes_of (X := cxOf (L2.CX P w) P w K mg base N__law_ends "_law_ends" (defScope s__law_ends) f cdv A outer s H E) rfl
  exact (fss_cons (fs_set (i := 2) sc__law_ends.nd rfl (by first | exact Or.inl rfl | exact Or.inr rfl) (fe_call G__law_take hT hgd (hr.mono (by decide : 1 ≤ 1)) tk (by rfl) mg__law_take kp__law_take b__law_take (fa_cons (fe_var 0) (fa_cons (fe_ix i_ix (fe_var 1) fe_int (fun _ _ => rfl)) fa_nil))))
      (fss_one (fs_ret (fe_tup (fa_cons (fe_var 2) (fa_cons (fe_ix i_ix (fe_lst (fa_cons (fe_var 2) (fa_cons (fe_call G__law_take hT hgd (hr.mono (by decide : 1 ≤ 1)) tk (by rfl) mg__law_take kp__law_take b__law_take (fa_cons (fe_var 0) (fa_cons (fe_ix i_ix (fe_var 1) fe_int (fun _ _ => rfl)) fa_nil))) (fa_cons (fe_call G__law_take hT hgd (hr.mono (by decide : 1 ≤ 1)) tk (by rfl) mg__law_take kp__law_take b__law_take (fa_cons (fe_var 0) (fa_cons (fe_ix i_ix (fe_var 1) fe_int (fun _ _ => rfl)) fa_nil))) fa_nil)))) (fe_call G__law_take hT hgd (hr.mono (by decide : 1 ≤ 1)) tk (by rfl) mg__law_take kp__law_take b__law_take (fa_cons (fe_var 0) (fa_cons fe_int fa_nil))) (fun _ _ => rfl)) fa_nil))))))
theorem ok__law_ends {f : Addr} {fd : FuncData} (T : Tx K mg) (g__law_take : Q__law_take P w K mg base TT) (F : Fun K "_law_ends" "_law_ends" s__law_ends f fd) (hm : mg "_law_ends" = some (.ref f)) : Q__law_ends P w K mg base TT :=
  ⟨⟨f, fd, own__law_ends T g__law_take F, hm, F.kp, F.binds fun _ _ _ _ _ _ us hl => match us, hl with | [_, _], _ => rfl⟩⟩
abbrev s__law_front : Stmt := topS 35
abbrev N__law_front : List Str := ["_law_net_here", "_law_start", "_law_goal", "_law_pairs", "_law_found", "_law_cost", "_law_way", "_law_pair", "_law_one"]
theorem sc__law_front : FnScope N__law_front ["_law_net_here", "_law_start", "_law_goal"] (defScope s__law_front) := ⟨rfl, rfl, rfl, by decide +kernel, rfl, by decide +kernel, by decide +kernel⟩
abbrev Q__law_front (P : Program) (w : World) (K : PySem.W.Frag) (mg : Str → Option Value) (base : Heap) (TT : List (Addr × Str)) : Prop := Cal P w K mg base "_law_front" 3 ["_law_net_here", "_law_start", "_law_goal"] (spOf K mg TT false [false, false, false] m__law_front)
theorem own__law_front {f : Addr} {fd : FuncData} (T : Tx K mg) (g__law_came : Q__law_came P w K mg base TT) (g__law_simple : Q__law_simple P w K mg base TT) (F : Fun K "_law_front" "_law_front" s__law_front f fd) : FnG P w K mg base (L2.CX P w) 3 f fd ["_law_net_here", "_law_start", "_law_goal"] (spOf K mg TT false [false, false, false] m__law_front) := by
  obtain ⟨f__law_came, fd__law_came, G__law_came, mg__law_came, kp__law_came, b__law_came⟩ := g__law_came.ex
  obtain ⟨f__law_simple, fd__law_simple, G__law_simple, mg__law_simple, kp__law_simple, b__law_simple⟩ := g__law_simple.ex
  refine fnD false [false, false, false] F sc__law_front rfl ?_
  intro cdv hcv A outer s H E C hT hW hgd hr
  have tk := takes_of (X := cxOf (L2.CX P w) P w K mg base N__law_front "_law_front" (defScope s__law_front) f cdv A outer s H E) (E := E) rfl rfl rfl rfl
  have hp := passes_of (X := cxOf (L2.CX P w) P w K mg base N__law_front "_law_front" (defScope s__law_front) f cdv A outer s H E) rfl
  exact (fss_cons (fs_par (i := 3) (j := 4) rfl sc__law_front.nd rfl rfl (by decide) rfl rfl (fa_cons fe_tqN (fa_cons (fe_new fa_nil) fa_nil)) (by rfl))
      (fss_cons (fs_for hp rfl (fi_seq (fe_call G__law_simple hT hgd (hr.mono (by decide : 2 ≤ 2)) tk (by rfl) mg__law_simple kp__law_simple b__law_simple (fa_cons (fe_var 0) (fa_cons (fe_var 1) (fa_cons (fe_var 2) fa_nil))))) (fg_tp rfl (fgs_cons (fg_nm sc__law_front.nd rfl (by first | exact Or.inl rfl | exact Or.inr rfl)) (fgs_cons (fg_nm sc__law_front.nd rfl (by first | exact Or.inl rfl | exact Or.inr rfl)) fgs_nil))) (fss_pm (ip := 7) (id := 3) (iw := 6) rfl hr.u65 sc__law_front.nd rfl (by first | exact Or.inl rfl | exact Or.inr rfl) (by first | exact Or.inl rfl | exact Or.inr rfl) rfl (by first | exact Or.inl rfl | exact Or.inr (Or.inl rfl) | exact Or.inr (Or.inr rfl)) rfl (by first | exact Or.inl rfl | exact Or.inr (Or.inl rfl) | exact Or.inr (Or.inr rfl)) (by decide) (by decide) (by decide) (by decide) (by decide) (by decide) (by decide) (by decide) (fk_slice (fe_call G__law_came hT hgd (hr.mono (by decide : 2 ≤ 2)) tk (by rfl) mg__law_came kp__law_came b__law_came (fa_cons (fe_var 0) (fa_cons (fe_var 1) (fa_cons (fe_var 6) fa_nil)))) (fo_some fe_int) fo_none) (by rfl) T.n_min (m := ⟨rfl, rfl, rfl, rfl⟩)))
      (fss_cons (fs_for hp rfl (fi_seq (fe_callB (c_sortQ rfl hr.u65) (by rfl) T.n_sorted (by decide +kernel) (fa_cons (fe_var 3) fa_nil))) (fg_nm sc__law_front.nd rfl (by first | exact Or.inl rfl | exact Or.inr rfl)) (fss_one (fs_if (ft_cmp (o_eq hr.units) (fe_compQ (w := 0) (id := 3) (own := [("_law_one", 8)]) rfl sc__law_front.nd (by rw [hW]; decide) rfl (by first | exact Or.inl rfl | exact Or.inr (Or.inl rfl) | exact Or.inr (Or.inr rfl)) (by decide) (by decide) (blkOk_by (own := [("_law_one", 8)]) (N := N__law_front) (sc := defScope s__law_front) (by decide +kernel)) (fun _ _ _ _ _ => (fg_nm sc__law_front.nd rfl (by first | exact Or.inl rfl | exact Or.inr rfl))) (fun _ hT1 _ _ _ _ _ => (fts_one (ft_w (fw_and (ft_cmp (o_ne hr.units) (fe_var 8) (fe_var 7) (nomark _)) (fw_and (ft_cmp o_le (fe_ix i_ix (fe_var 8) fe_int (fun _ _ => rfl)) (fe_ix i_ix (fe_var 7) fe_int (fun _ _ => rfl)) (nomark _)) (fw_and1 (ft_cmp o_le (fe_ix i_ix (fe_var 8) fe_int (fun _ _ => rfl)) (fe_ix i_ix (fe_var 7) fe_int (fun _ _ => rfl)) (nomark _)))))))) (fun _ hT1 _ _ _ _ _ => (fe_var 8))) (fe_lst fa_nil) (nomark _)) (fss_one (fs_exp (fe_mt PySem.F.slot_list_append PySem.F.type_list_append m_append (fe_var 4) (fa_cons (fe_op o_add (fe_var 7) (fe_tup (fa_cons (fe_dqix hr.u65 (fe_var 3) (fe_var 7)) fa_nil))) fa_nil)))) fss_nil)))
      (fss_one (fs_ret (fe_var 4))))))
theorem ok__law_front {f : Addr} {fd : FuncData} (T : Tx K mg) (g__law_came : Q__law_came P w K mg base TT) (g__law_simple : Q__law_simple P w K mg base TT) (F : Fun K "_law_front" "_law_front" s__law_front f fd) (hm : mg "_law_front" = some (.ref f)) : Q__law_front P w K mg base TT :=
  ⟨⟨f, fd, own__law_front T g__law_came g__law_simple F, hm, F.kp, F.binds fun _ _ _ _ _ _ us hl => match us, hl with | [_, _, _], _ => rfl⟩⟩
abbrev s_law : Stmt := topS 36
abbrev N_law : List Str := ["_law_script", "_law_roads", "_law_net_here", "_law_k", "_law_state_here", "_law_start", "_law_goal", "_law_kept", "_law_due", "_law_lap", "_law_found"]
theorem sc_law : FnScope N_law ["_law_script"] (defScope s_law) := ⟨rfl, rfl, rfl, by decide +kernel, rfl, by decide +kernel, by decide +kernel⟩
theorem own_law {f : Addr} {fd : FuncData} (T : Tx K mg) (g_front_of : Q_front_of P w K mg base TT) (g__law_state : Q__law_state P w K mg base TT) (g__law_net : Q__law_net P w K mg base TT) (g__law_ends : Q__law_ends P w K mg base TT) (g__law_front : Q__law_front P w K mg base TT) (F : Fun K "law" "law" s_law f fd) : FnG P w K mg base (L2.CX P w) 7 f fd ["_law_script"] (spOf K mg TT false [false] m_law) := by
  obtain ⟨f_front_of, fd_front_of, G_front_of, mg_front_of, kp_front_of, b_front_of⟩ := g_front_of.ex
  obtain ⟨f__law_state, fd__law_state, G__law_state, mg__law_state, kp__law_state, b__law_state⟩ := g__law_state.ex
  obtain ⟨f__law_net, fd__law_net, G__law_net, mg__law_net, kp__law_net, b__law_net⟩ := g__law_net.ex
  obtain ⟨f__law_ends, fd__law_ends, G__law_ends, mg__law_ends, kp__law_ends, b__law_ends⟩ := g__law_ends.ex
  obtain ⟨f__law_front, fd__law_front, G__law_front, mg__law_front, kp__law_front, b__law_front⟩ := g__law_front.ex
  refine fnD false [false] F sc_law rfl ?_
  intro cdv hcv A outer s H E C hT hW hgd hr
  have tk := takes_of (X := cxOf (L2.CX P w) P w K mg base N_law "law" (defScope s_law) f cdv A outer s H E) (E := E) rfl rfl rfl rfl
  have hp := passes_of (X := cxOf (L2.CX P w) P w K mg base N_law "law" (defScope s_law) f cdv A outer s H E) rfl
  exact (fss_cons (fs_set (i := 1) sc_law.nd rfl (by first | exact Or.inl rfl | exact Or.inr rfl) (fe_tup (fa_cons (fe_tup (fa_cons fe_int (fa_cons fe_int (fa_cons fe_int (fa_cons fe_int fa_nil))))) (fa_cons (fe_tup (fa_cons fe_int (fa_cons fe_int (fa_cons fe_int (fa_cons fe_int fa_nil))))) (fa_cons (fe_tup (fa_cons fe_int (fa_cons fe_int (fa_cons fe_int (fa_cons fe_int fa_nil))))) (fa_cons (fe_tup (fa_cons fe_int (fa_cons fe_int (fa_cons fe_int (fa_cons fe_int fa_nil))))) (fa_cons (fe_tup (fa_cons fe_int (fa_cons fe_int (fa_cons fe_int (fa_cons fe_int fa_nil))))) (fa_cons (fe_tup (fa_cons fe_int (fa_cons fe_int (fa_cons fe_int (fa_cons fe_int fa_nil))))) (fa_cons (fe_tup (fa_cons fe_int (fa_cons fe_int (fa_cons fe_int (fa_cons fe_int fa_nil))))) fa_nil)))))))))
      (fss_cons (fs_set (i := 2) sc_law.nd rfl (by first | exact Or.inl rfl | exact Or.inr rfl) (fe_tup (fa_cons fe_int (fa_cons (fe_op o_add (fe_var 1) (fe_tup (fa_cons (fe_tup (fa_cons fe_int (fa_cons fe_int (fa_cons fe_int (fa_cons fe_int fa_nil))))) fa_nil))) fa_nil))))
      (fss_cons (fs_if (ft_cmp (o_ne hr.units) (fe_call G_front_of hT hgd (hr.mono (by decide : 6 ≤ 6)) tk (by rfl) mg_front_of kp_front_of b_front_of (fa_cons (fe_var 2) (fa_cons fe_int (fa_cons fe_int fa_nil)))) (fe_lst (fa_cons (fe_tup (fa_cons fe_int (fa_cons fe_int (fa_cons (fe_tup (fa_cons fe_int (fa_cons fe_int fa_nil))) fa_nil)))) (fa_cons (fe_tup (fa_cons fe_int (fa_cons fe_int (fa_cons (fe_tup (fa_cons fe_int (fa_cons fe_int fa_nil))) fa_nil)))) (fa_cons (fe_tup (fa_cons fe_int (fa_cons fe_int (fa_cons (fe_tup (fa_cons fe_int (fa_cons fe_int (fa_cons fe_int fa_nil)))) fa_nil)))) (fa_cons (fe_tup (fa_cons fe_int (fa_cons fe_int (fa_cons (fe_tup (fa_cons fe_int fa_nil)) fa_nil)))) fa_nil))))) (nomark _)) (fss_one (fs_ret fe_bl)) fss_nil)
      (fss_cons (fs_if (ft_cmp (o_ne hr.units) (fe_lst (fa_cons (fe_call G_front_of hT hgd (hr.mono (by decide : 6 ≤ 6)) tk (by rfl) mg_front_of kp_front_of b_front_of (fa_cons (fe_var 2) (fa_cons fe_int (fa_cons fe_int fa_nil)))) (fa_cons (fe_call G_front_of hT hgd (hr.mono (by decide : 6 ≤ 6)) tk (by rfl) mg_front_of kp_front_of b_front_of (fa_cons (fe_var 2) (fa_cons fe_int (fa_cons fe_int fa_nil)))) (fa_cons (fe_call G_front_of hT hgd (hr.mono (by decide : 6 ≤ 6)) tk (by rfl) mg_front_of kp_front_of b_front_of (fa_cons (fe_tup (fa_cons fe_int (fa_cons (fe_tup fa_nil) fa_nil))) (fa_cons fe_int (fa_cons fe_int fa_nil)))) fa_nil)))) (fe_lst (fa_cons (fe_lst fa_nil) (fa_cons (fe_lst (fa_cons (fe_tup (fa_cons fe_int (fa_cons fe_int (fa_cons (fe_tup fa_nil) fa_nil)))) fa_nil)) (fa_cons (fe_lst (fa_cons (fe_tup (fa_cons fe_int (fa_cons fe_int (fa_cons (fe_tup fa_nil) fa_nil)))) fa_nil)) fa_nil)))) (nomark _)) (fss_one (fs_ret fe_bl)) fss_nil)
      (fss_cons (fs_for hp rfl (fi_rng1 (by rfl) T.n_range (fa_cons (fe_callB (c_max2 rfl) (by rfl) T.n_max (by decide +kernel) (fa_cons fe_int (fa_cons (fe_callB (c_min2 rfl) (by rfl) T.n_min (by decide +kernel) (fa_cons (fe_callB c_len (by rfl) T.n_len (by decide +kernel) (fa_cons (fe_var 0) fa_nil)) (fa_cons fe_int fa_nil))) fa_nil))) fa_nil)) (fg_nm sc_law.nd rfl (by first | exact Or.inl rfl | exact Or.inr rfl)) (fss_cons (fs_set (i := 4) sc_law.nd rfl (by first | exact Or.inl rfl | exact Or.inr rfl) (fe_callN G__law_state hT hgd (hr.mono (by decide : 2 ≤ 6)) tk (by rfl) mg__law_state kp__law_state b__law_state (fa_cons (fe_var 0) (fa_cons (fe_var 3) fa_nil))))
      (fss_cons (fs_set (i := 2) sc_law.nd rfl (by first | exact Or.inl rfl | exact Or.inr rfl) (fe_call G__law_net hT hgd (hr.mono (by decide : 2 ≤ 6)) tk (by rfl) mg__law_net kp__law_net b__law_net (fa_cons (fe_var 4) (fa_cons fe_int (fa_cons fe_int fa_nil)))))
      (fss_cons (fs_asg (fe_call G__law_ends hT hgd (hr.mono (by decide : 2 ≤ 6)) tk (by rfl) mg__law_ends kp__law_ends b__law_ends (fa_cons (fe_var 4) (fa_cons (fe_var 2) fa_nil))) (fg_tp rfl (fgs_cons (fg_nm sc_law.nd rfl (by first | exact Or.inl rfl | exact Or.inr rfl)) (fgs_cons (fg_nm sc_law.nd rfl (by first | exact Or.inl rfl | exact Or.inr rfl)) fgs_nil))))
      (fss_cons (fs_par (i := 7) (j := 8) rfl sc_law.nd rfl rfl (by decide) rfl rfl (fa_cons (fe_callB (c_reprX hgd hr.u65) (by rfl) T.n_repr (by decide +kernel) (fa_cons (fe_var 2) fa_nil)) (fa_cons (fe_callB (c_reprX hgd hr.u65) (by rfl) T.n_repr (by decide +kernel) (fa_cons (fe_call G__law_front hT hgd (hr.mono (by decide : 3 ≤ 6)) tk (by rfl) mg__law_front kp__law_front b__law_front (fa_cons (fe_var 2) (fa_cons (fe_var 5) (fa_cons (fe_var 6) fa_nil)))) fa_nil)) fa_nil)) (by rfl))
      (fss_one (fs_for hp rfl (fi_rng1 (by rfl) T.n_range (fa_cons fe_int fa_nil)) (fg_nm sc_law.nd rfl (by first | exact Or.inl rfl | exact Or.inr rfl)) (fss_cons (fs_set (i := 10) sc_law.nd rfl (by first | exact Or.inl rfl | exact Or.inr rfl) (fe_callN G_front_of hT hgd (hr.mono (by decide : 6 ≤ 6)) tk (by rfl) mg_front_of kp_front_of b_front_of (fa_cons (fe_var 2) (fa_cons (fe_var 5) (fa_cons (fe_var 6) fa_nil)))))
      (fss_cons (fs_if (ft_w (fw_or (ft_cmp (o_ne hr.units) (fe_callB (c_reprX hgd hr.u65) (by rfl) T.n_repr (by decide +kernel) (fa_cons (fe_var 10) fa_nil)) (fe_var 8) (nomark _)) (fw_or1 (ft_cmp (o_ne hr.units) (fe_callB (c_reprX hgd hr.u65) (by rfl) T.n_repr (by decide +kernel) (fa_cons (fe_var 2) fa_nil)) (fe_var 7) (nomark _))))) (fss_one (fs_ret fe_bl)) fss_nil)
      (fss_one (fs_exp (fe_mt PySem.F.slot_list_append PySem.F.type_list_append m_append (fe_var 10) (fa_cons fe_non fa_nil)))))))))))))
      (fss_one (fs_ret fe_bl)))))))
end
end FL
namespace FL
open PySem PySem.Spec PyProof.Rows L2
def lams_ : List Str := []
theorem all_mk {P : Program} {w : World} {K : PySem.W.Frag} {h : Heap} {mg mb : Str → Option Value} {fa : Addr} {q : Program} {loose : List Str} {mean : ExcName → Option Value} (X0 : K.In h) (GT : PyProof.Rows.Top q loose mean mg mb h) (hfa : mg "law" = some (.ref fa))
    {f0 : Addr} {od0 an0 : Option Addr} {sl0 : Array (Option Value)} {oc0 kV0 dc0 pm0 cd0 ct0 : Value}
    {f1 : Addr} {od1 an1 : Option Addr} {sl1 : Array (Option Value)} {oc1 kV1 dc1 pm1 cd1 ct1 : Value}
    {f2 : Addr} {od2 an2 : Option Addr} {sl2 : Array (Option Value)} {oc2 kV2 dc2 pm2 cd2 ct2 : Value}
    {f3 : Addr} {od3 an3 : Option Addr} {sl3 : Array (Option Value)} {oc3 kV3 dc3 pm3 cd3 ct3 : Value}
    {f4 : Addr} {od4 an4 : Option Addr} {sl4 : Array (Option Value)} {oc4 kV4 dc4 pm4 cd4 ct4 : Value}
    {f5 : Addr} {od5 an5 : Option Addr} {sl5 : Array (Option Value)} {oc5 kV5 dc5 pm5 cd5 ct5 : Value}
    {f6 : Addr} {od6 an6 : Option Addr} {sl6 : Array (Option Value)} {oc6 kV6 dc6 pm6 cd6 ct6 : Value}
    {f7 : Addr} {od7 an7 : Option Addr} {sl7 : Array (Option Value)} {oc7 kV7 dc7 pm7 cd7 ct7 : Value}
    {f8 : Addr} {od8 an8 : Option Addr} {sl8 : Array (Option Value)} {oc8 kV8 dc8 pm8 cd8 ct8 : Value}
    {f9 : Addr} {od9 an9 : Option Addr} {sl9 : Array (Option Value)} {oc9 kV9 dc9 pm9 cd9 ct9 : Value}
    {f10 : Addr} {od10 an10 : Option Addr} {sl10 : Array (Option Value)} {oc10 kV10 dc10 pm10 cd10 ct10 : Value}
    {f11 : Addr} {od11 an11 : Option Addr} {sl11 : Array (Option Value)} {oc11 kV11 dc11 pm11 cd11 ct11 : Value}
    {f12 : Addr} {od12 an12 : Option Addr} {sl12 : Array (Option Value)} {oc12 kV12 dc12 pm12 cd12 ct12 : Value}
    {f13 : Addr} {od13 an13 : Option Addr} {sl13 : Array (Option Value)} {oc13 kV13 dc13 pm13 cd13 ct13 : Value}
    {f14 : Addr} {od14 an14 : Option Addr} {sl14 : Array (Option Value)} {oc14 kV14 dc14 pm14 cd14 ct14 : Value}
    {f15 : Addr} {od15 an15 : Option Addr} {sl15 : Array (Option Value)} {oc15 kV15 dc15 pm15 cd15 ct15 : Value}
    {f16 : Addr} {od16 an16 : Option Addr} {sl16 : Array (Option Value)} {oc16 kV16 dc16 pm16 cd16 ct16 : Value}
    {f17 : Addr} {od17 an17 : Option Addr} {sl17 : Array (Option Value)} {oc17 kV17 dc17 pm17 cd17 ct17 : Value}
    {f18 : Addr} {od18 an18 : Option Addr} {sl18 : Array (Option Value)} {oc18 kV18 dc18 pm18 cd18 ct18 : Value}
    {f19 : Addr} {od19 an19 : Option Addr} {sl19 : Array (Option Value)} {oc19 kV19 dc19 pm19 cd19 ct19 : Value}
    {f20 : Addr} {od20 an20 : Option Addr} {sl20 : Array (Option Value)} {oc20 kV20 dc20 pm20 cd20 ct20 : Value}
    {f21 : Addr} {od21 an21 : Option Addr} {sl21 : Array (Option Value)} {oc21 kV21 dc21 pm21 cd21 ct21 : Value}
    {f22 : Addr} {od22 an22 : Option Addr} {sl22 : Array (Option Value)} {oc22 kV22 dc22 pm22 cd22 ct22 : Value}
    {f23 : Addr} {od23 an23 : Option Addr} {sl23 : Array (Option Value)} {oc23 kV23 dc23 pm23 cd23 ct23 : Value}
    (a0 : PySem.W.nsIn K mainGlobals "is_among" = some (some (.ref f0))) (l0 : K.lookup f0 = some ⟨oc0, od0, .func (PySem.W.fnOf "is_among" "is_among" (defArgs s_is_among) (defBody s_is_among) (defScope s_is_among) .none kV0 dc0 pm0 an0 cd0 ct0), sl0⟩) (c0 : PySem.W.codeIn K cd0 "is_among" = true) (k0 : PySem.W.keepIn K (.ref f0) = true)
    (a1 : PySem.W.nsIn K mainGlobals "is_road" = some (some (.ref f1))) (l1 : K.lookup f1 = some ⟨oc1, od1, .func (PySem.W.fnOf "is_road" "is_road" (defArgs s_is_road) (defBody s_is_road) (defScope s_is_road) .none kV1 dc1 pm1 an1 cd1 ct1), sl1⟩) (c1 : PySem.W.codeIn K cd1 "is_road" = true) (k1 : PySem.W.keepIn K (.ref f1) = true)
    (a2 : PySem.W.nsIn K mainGlobals "is_net" = some (some (.ref f2))) (l2 : K.lookup f2 = some ⟨oc2, od2, .func (PySem.W.fnOf "is_net" "is_net" (defArgs s_is_net) (defBody s_is_net) (defScope s_is_net) .none kV2 dc2 pm2 an2 cd2 ct2), sl2⟩) (c2 : PySem.W.codeIn K cd2 "is_net" = true) (k2 : PySem.W.keepIn K (.ref f2) = true)
    (a3 : PySem.W.nsIn K mainGlobals "need_net" = some (some (.ref f3))) (l3 : K.lookup f3 = some ⟨oc3, od3, .func (PySem.W.fnOf "need_net" "need_net" (defArgs s_need_net) (defBody s_need_net) (defScope s_need_net) .none kV3 dc3 pm3 an3 cd3 ct3), sl3⟩) (c3 : PySem.W.codeIn K cd3 "need_net" = true) (k3 : PySem.W.keepIn K (.ref f3) = true)
    (a4 : PySem.W.nsIn K mainGlobals "is_place" = some (some (.ref f4))) (l4 : K.lookup f4 = some ⟨oc4, od4, .func (PySem.W.fnOf "is_place" "is_place" (defArgs s_is_place) (defBody s_is_place) (defScope s_is_place) .none kV4 dc4 pm4 an4 cd4 ct4), sl4⟩) (c4 : PySem.W.codeIn K cd4 "is_place" = true) (k4 : PySem.W.keepIn K (.ref f4) = true)
    (a5 : PySem.W.nsIn K mainGlobals "need_place" = some (some (.ref f5))) (l5 : K.lookup f5 = some ⟨oc5, od5, .func (PySem.W.fnOf "need_place" "need_place" (defArgs s_need_place) (defBody s_need_place) (defScope s_need_place) .none kV5 dc5 pm5 an5 cd5 ct5), sl5⟩) (c5 : PySem.W.codeIn K cd5 "need_place" = true) (k5 : PySem.W.keepIn K (.ref f5) = true)
    (a6 : PySem.W.nsIn K mainGlobals "need_ends" = some (some (.ref f6))) (l6 : K.lookup f6 = some ⟨oc6, od6, .func (PySem.W.fnOf "need_ends" "need_ends" (defArgs s_need_ends) (defBody s_need_ends) (defScope s_need_ends) .none kV6 dc6 pm6 an6 cd6 ct6), sl6⟩) (c6 : PySem.W.codeIn K cd6 "need_ends" = true) (k6 : PySem.W.keepIn K (.ref f6) = true)
    (a7 : PySem.W.nsIn K mainGlobals "roads_from" = some (some (.ref f7))) (l7 : K.lookup f7 = some ⟨oc7, od7, .func (PySem.W.fnOf "roads_from" "roads_from" (defArgs s_roads_from) (defBody s_roads_from) (defScope s_roads_from) .none kV7 dc7 pm7 an7 cd7 ct7), sl7⟩) (c7 : PySem.W.codeIn K cd7 "roads_from" = true) (k7 : PySem.W.keepIn K (.ref f7) = true)
    (a8 : PySem.W.nsIn K mainGlobals "pairs_from" = some (some (.ref f8))) (l8 : K.lookup f8 = some ⟨oc8, od8, .func (PySem.W.fnOf "pairs_from" "pairs_from" (defArgs s_pairs_from) (defBody s_pairs_from) (defScope s_pairs_from) .none kV8 dc8 pm8 an8 cd8 ct8), sl8⟩) (c8 : PySem.W.codeIn K cd8 "pairs_from" = true) (k8 : PySem.W.keepIn K (.ref f8) = true)
    (a9 : PySem.W.nsIn K mainGlobals "turned_about" = some (some (.ref f9))) (l9 : K.lookup f9 = some ⟨oc9, od9, .func (PySem.W.fnOf "turned_about" "turned_about" (defArgs s_turned_about) (defBody s_turned_about) (defScope s_turned_about) .none kV9 dc9 pm9 an9 cd9 ct9), sl9⟩) (c9 : PySem.W.codeIn K cd9 "turned_about" = true) (k9 : PySem.W.keepIn K (.ref f9) = true)
    (a10 : PySem.W.nsIn K mainGlobals "way_with" = some (some (.ref f10))) (l10 : K.lookup f10 = some ⟨oc10, od10, .func (PySem.W.fnOf "way_with" "way_with" (defArgs s_way_with) (defBody s_way_with) (defScope s_way_with) .none kV10 dc10 pm10 an10 cd10 ct10), sl10⟩) (c10 : PySem.W.codeIn K cd10 "way_with" = true) (k10 : PySem.W.keepIn K (.ref f10) = true)
    (a11 : PySem.W.nsIn K mainGlobals "front_in" = some (some (.ref f11))) (l11 : K.lookup f11 = some ⟨oc11, od11, .func (PySem.W.fnOf "front_in" "front_in" (defArgs s_front_in) (defBody s_front_in) (defScope s_front_in) .none kV11 dc11 pm11 an11 cd11 ct11), sl11⟩) (c11 : PySem.W.codeIn K cd11 "front_in" = true) (k11 : PySem.W.keepIn K (.ref f11) = true)
    (a12 : PySem.W.nsIn K mainGlobals "front_of" = some (some (.ref f12))) (l12 : K.lookup f12 = some ⟨oc12, od12, .func (PySem.W.fnOf "front_of" "front_of" (defArgs s_front_of) (defBody s_front_of) (defScope s_front_of) .none kV12 dc12 pm12 an12 cd12 ct12), sl12⟩) (c12 : PySem.W.codeIn K cd12 "front_of" = true) (k12 : PySem.W.keepIn K (.ref f12) = true)
    (a13 : PySem.W.nsIn K mainGlobals "_law_cell_at" = some (some (.ref f13))) (l13 : K.lookup f13 = some ⟨oc13, od13, .func (PySem.W.fnOf "_law_cell_at" "_law_cell_at" (defArgs s__law_cell_at) (defBody s__law_cell_at) (defScope s__law_cell_at) .none kV13 dc13 pm13 an13 cd13 ct13), sl13⟩) (c13 : PySem.W.codeIn K cd13 "_law_cell_at" = true) (k13 : PySem.W.keepIn K (.ref f13) = true)
    (a14 : PySem.W.nsIn K mainGlobals "_law_state" = some (some (.ref f14))) (l14 : K.lookup f14 = some ⟨oc14, od14, .func (PySem.W.fnOf "_law_state" "_law_state" (defArgs s__law_state) (defBody s__law_state) (defScope s__law_state) .none kV14 dc14 pm14 an14 cd14 ct14), sl14⟩) (c14 : PySem.W.codeIn K cd14 "_law_state" = true) (k14 : PySem.W.keepIn K (.ref f14) = true)
    (a15 : PySem.W.nsIn K mainGlobals "_law_take" = some (some (.ref f15))) (l15 : K.lookup f15 = some ⟨oc15, od15, .func (PySem.W.fnOf "_law_take" "_law_take" (defArgs s__law_take) (defBody s__law_take) (defScope s__law_take) .none kV15 dc15 pm15 an15 cd15 ct15), sl15⟩) (c15 : PySem.W.codeIn K cd15 "_law_take" = true) (k15 : PySem.W.keepIn K (.ref f15) = true)
    (a16 : PySem.W.nsIn K mainGlobals "_law_number" = some (some (.ref f16))) (l16 : K.lookup f16 = some ⟨oc16, od16, .func (PySem.W.fnOf "_law_number" "_law_number" (defArgs s__law_number) (defBody s__law_number) (defScope s__law_number) .none kV16 dc16 pm16 an16 cd16 ct16), sl16⟩) (c16 : PySem.W.codeIn K cd16 "_law_number" = true) (k16 : PySem.W.keepIn K (.ref f16) = true)
    (a17 : PySem.W.nsIn K mainGlobals "_law_net" = some (some (.ref f17))) (l17 : K.lookup f17 = some ⟨oc17, od17, .func (PySem.W.fnOf "_law_net" "_law_net" (defArgs s__law_net) (defBody s__law_net) (defScope s__law_net) .none kV17 dc17 pm17 an17 cd17 ct17), sl17⟩) (c17 : PySem.W.codeIn K cd17 "_law_net" = true) (k17 : PySem.W.keepIn K (.ref f17) = true)
    (a18 : PySem.W.nsIn K mainGlobals "_law_joins" = some (some (.ref f18))) (l18 : K.lookup f18 = some ⟨oc18, od18, .func (PySem.W.fnOf "_law_joins" "_law_joins" (defArgs s__law_joins) (defBody s__law_joins) (defScope s__law_joins) .none kV18 dc18 pm18 an18 cd18 ct18), sl18⟩) (c18 : PySem.W.codeIn K cd18 "_law_joins" = true) (k18 : PySem.W.keepIn K (.ref f18) = true)
    (a19 : PySem.W.nsIn K mainGlobals "_law_came" = some (some (.ref f19))) (l19 : K.lookup f19 = some ⟨oc19, od19, .func (PySem.W.fnOf "_law_came" "_law_came" (defArgs s__law_came) (defBody s__law_came) (defScope s__law_came) .none kV19 dc19 pm19 an19 cd19 ct19), sl19⟩) (c19 : PySem.W.codeIn K cd19 "_law_came" = true) (k19 : PySem.W.keepIn K (.ref f19) = true)
    (a20 : PySem.W.nsIn K mainGlobals "_law_simple" = some (some (.ref f20))) (l20 : K.lookup f20 = some ⟨oc20, od20, .func (PySem.W.fnOf "_law_simple" "_law_simple" (defArgs s__law_simple) (defBody s__law_simple) (defScope s__law_simple) .none kV20 dc20 pm20 an20 cd20 ct20), sl20⟩) (c20 : PySem.W.codeIn K cd20 "_law_simple" = true) (k20 : PySem.W.keepIn K (.ref f20) = true)
    (a21 : PySem.W.nsIn K mainGlobals "_law_ends" = some (some (.ref f21))) (l21 : K.lookup f21 = some ⟨oc21, od21, .func (PySem.W.fnOf "_law_ends" "_law_ends" (defArgs s__law_ends) (defBody s__law_ends) (defScope s__law_ends) .none kV21 dc21 pm21 an21 cd21 ct21), sl21⟩) (c21 : PySem.W.codeIn K cd21 "_law_ends" = true) (k21 : PySem.W.keepIn K (.ref f21) = true)
    (a22 : PySem.W.nsIn K mainGlobals "_law_front" = some (some (.ref f22))) (l22 : K.lookup f22 = some ⟨oc22, od22, .func (PySem.W.fnOf "_law_front" "_law_front" (defArgs s__law_front) (defBody s__law_front) (defScope s__law_front) .none kV22 dc22 pm22 an22 cd22 ct22), sl22⟩) (c22 : PySem.W.codeIn K cd22 "_law_front" = true) (k22 : PySem.W.keepIn K (.ref f22) = true)
    (a23 : PySem.W.nsIn K mainGlobals "law" = some (some (.ref f23))) (l23 : K.lookup f23 = some ⟨oc23, od23, .func (PySem.W.fnOf "law" "law" (defArgs s_law) (defBody s_law) (defScope s_law) .none kV23 dc23 pm23 an23 cd23 ct23), sl23⟩) (c23 : PySem.W.codeIn K cd23 "law" = true) (k23 : PySem.W.keepIn K (.ref f23) = true)
    (z_all : PySem.W.nsIn K mainGlobals "all" = some none)
    (z_bool : PySem.W.nsIn K mainGlobals "bool" = some none)
    (z_enumerate : PySem.W.nsIn K mainGlobals "enumerate" = some none)
    (z_int : PySem.W.nsIn K mainGlobals "int" = some none)
    (z_isinstance : PySem.W.nsIn K mainGlobals "isinstance" = some none)
    (z_len : PySem.W.nsIn K mainGlobals "len" = some none)
    (z_max : PySem.W.nsIn K mainGlobals "max" = some none)
    (z_min : PySem.W.nsIn K mainGlobals "min" = some none)
    (z_range : PySem.W.nsIn K mainGlobals "range" = some none)
    (z_repr : PySem.W.nsIn K mainGlobals "repr" = some none)
    (z_sorted : PySem.W.nsIn K mainGlobals "sorted" = some none)
    (z_tuple : PySem.W.nsIn K mainGlobals "tuple" = some none)
    (y_MOST_COST : ∃ t, PySem.W.nsIn K mainGlobals "MOST_COST" = some (some (.int 99 t)))
    (y_MOST_PLACES : ∃ t, PySem.W.nsIn K mainGlobals "MOST_PLACES" = some (some (.int 10 t)))
    (y_MOST_ROADS : ∃ t, PySem.W.nsIn K mainGlobals "MOST_ROADS" = some (some (.int 30 t)))
    (y_MOST_TIME : ∃ t, PySem.W.nsIn K mainGlobals "MOST_TIME" = some (some (.int 99 t)))
    (xb_NoNet : clsB K "NoNet" = true)
    (xb_NoPlace : clsB K "NoPlace" = true)
    : ∃ (fd : FuncData) (cs : List (Addr × Addr)) (TT : List (Addr × Str)), (∀ (s : Shared) (v : Value), BindsTo s fd ⟨[v], []⟩ [("_law_script", v)]) ∧ TabsAt h K cs ∧ (∀ p ∈ TT, p.1 ∈ cs.map (·.2)) ∧ ∀ base : Heap, K.In base → base.Ns mainGlobals mg → base.NoDigits → (∀ p ∈ cs, LamX.TabB base mg p.1 p.2) → FnG P w K mg base (L2.CX P w) 7 fa fd ["_law_script"] (spOf K mg TT false [false] m_law) := by
  have G := GT.g
  have e := hfa.symm.trans (PySem.W.mg_of X0 G a23)
  cases e
  have T : Tx K mg := {
    n_all := PySem.W.mg_none_of X0 G z_all
    n_bool := PySem.W.mg_none_of X0 G z_bool
    n_enumerate := PySem.W.mg_none_of X0 G z_enumerate
    n_int := PySem.W.mg_none_of X0 G z_int
    n_isinstance := PySem.W.mg_none_of X0 G z_isinstance
    n_len := PySem.W.mg_none_of X0 G z_len
    n_max := PySem.W.mg_none_of X0 G z_max
    n_min := PySem.W.mg_none_of X0 G z_min
    n_range := PySem.W.mg_none_of X0 G z_range
    n_repr := PySem.W.mg_none_of X0 G z_repr
    n_sorted := PySem.W.mg_none_of X0 G z_sorted
    n_tuple := PySem.W.mg_none_of X0 G z_tuple
    c_MOST_COST := let ⟨t, e⟩ := y_MOST_COST; ⟨t, PySem.W.mg_of X0 G e⟩
    c_MOST_PLACES := let ⟨t, e⟩ := y_MOST_PLACES; ⟨t, PySem.W.mg_of X0 G e⟩
    c_MOST_ROADS := let ⟨t, e⟩ := y_MOST_ROADS; ⟨t, PySem.W.mg_of X0 G e⟩
    c_MOST_TIME := let ⟨t, e⟩ := y_MOST_TIME; ⟨t, PySem.W.mg_of X0 G e⟩
    x_NoNet := clsB_ok X0 G xb_NoNet
    x_NoPlace := clsB_ok X0 G xb_NoPlace }
  refine ⟨PySem.W.fnOf "law" "law" (defArgs s_law) (defBody s_law) (defScope s_law) .none kV23 dc23 pm23 an23 cd23 ct23, [], tabT K lams_, fun s v => .of_eq rfl, ⟨fun _ z => (nomatch z), fun _ z => (nomatch z), fun _ z => (nomatch z)⟩, fun _ z => (nomatch z), fun base _ _ _ TB => ?_⟩
  have g_is_among : Q_is_among P w K mg base (tabT K lams_) := ok_is_among T  (fun_mk (st := s_is_among) l0 c0 k0) (PySem.W.mg_of X0 G a0)
  have g_is_road : Q_is_road P w K mg base (tabT K lams_) := ok_is_road T g_is_among (fun_mk (st := s_is_road) l1 c1 k1) (PySem.W.mg_of X0 G a1)
  have g_is_net : Q_is_net P w K mg base (tabT K lams_) := ok_is_net T g_is_among g_is_road (fun_mk (st := s_is_net) l2 c2 k2) (PySem.W.mg_of X0 G a2)
  have g_need_net : Q_need_net P w K mg base (tabT K lams_) := ok_need_net T g_is_net (fun_mk (st := s_need_net) l3 c3 k3) (PySem.W.mg_of X0 G a3)
  have g_is_place : Q_is_place P w K mg base (tabT K lams_) := ok_is_place T g_is_among (fun_mk (st := s_is_place) l4 c4 k4) (PySem.W.mg_of X0 G a4)
  have g_need_place : Q_need_place P w K mg base (tabT K lams_) := ok_need_place T g_is_place (fun_mk (st := s_need_place) l5 c5 k5) (PySem.W.mg_of X0 G a5)
  have g_need_ends : Q_need_ends P w K mg base (tabT K lams_) := ok_need_ends T g_need_net g_need_place (fun_mk (st := s_need_ends) l6 c6 k6) (PySem.W.mg_of X0 G a6)
  have g_roads_from : Q_roads_from P w K mg base (tabT K lams_) := ok_roads_from T  (fun_mk (st := s_roads_from) l7 c7 k7) (PySem.W.mg_of X0 G a7)
  have g_pairs_from : Q_pairs_from P w K mg base (tabT K lams_) := ok_pairs_from T  (fun_mk (st := s_pairs_from) l8 c8 k8) (PySem.W.mg_of X0 G a8)
  have g_turned_about : Q_turned_about P w K mg base (tabT K lams_) := ok_turned_about T  (fun_mk (st := s_turned_about) l9 c9 k9) (PySem.W.mg_of X0 G a9)
  have g_way_with : Q_way_with P w K mg base (tabT K lams_) := ok_way_with T g_roads_from (fun_mk (st := s_way_with) l10 c10 k10) (PySem.W.mg_of X0 G a10)
  have g_front_in : Q_front_in P w K mg base (tabT K lams_) := ok_front_in T g_pairs_from g_turned_about g_way_with (fun_mk (st := s_front_in) l11 c11 k11) (PySem.W.mg_of X0 G a11)
  have g_front_of : Q_front_of P w K mg base (tabT K lams_) := ok_front_of T g_need_ends g_front_in (fun_mk (st := s_front_of) l12 c12 k12) (PySem.W.mg_of X0 G a12)
  have g__law_cell_at : Q__law_cell_at P w K mg base (tabT K lams_) := ok__law_cell_at T  (fun_mk (st := s__law_cell_at) l13 c13 k13) (PySem.W.mg_of X0 G a13)
  have g__law_state : Q__law_state P w K mg base (tabT K lams_) := ok__law_state T g__law_cell_at (fun_mk (st := s__law_state) l14 c14 k14) (PySem.W.mg_of X0 G a14)
  have g__law_take : Q__law_take P w K mg base (tabT K lams_) := ok__law_take T  (fun_mk (st := s__law_take) l15 c15 k15) (PySem.W.mg_of X0 G a15)
  have g__law_number : Q__law_number P w K mg base (tabT K lams_) := ok__law_number T  (fun_mk (st := s__law_number) l16 c16 k16) (PySem.W.mg_of X0 G a16)
  have g__law_net : Q__law_net P w K mg base (tabT K lams_) := ok__law_net T g__law_take (fun_mk (st := s__law_net) l17 c17 k17) (PySem.W.mg_of X0 G a17)
  have g__law_joins : Q__law_joins P w K mg base (tabT K lams_) := ok__law_joins T  (fun_mk (st := s__law_joins) l18 c18 k18) (PySem.W.mg_of X0 G a18)
  have g__law_came : Q__law_came P w K mg base (tabT K lams_) := ok__law_came T g__law_number (fun_mk (st := s__law_came) l19 c19 k19) (PySem.W.mg_of X0 G a19)
  have g__law_simple : Q__law_simple P w K mg base (tabT K lams_) := ok__law_simple T g__law_joins (fun_mk (st := s__law_simple) l20 c20 k20) (PySem.W.mg_of X0 G a20)
  have g__law_ends : Q__law_ends P w K mg base (tabT K lams_) := ok__law_ends T g__law_take (fun_mk (st := s__law_ends) l21 c21 k21) (PySem.W.mg_of X0 G a21)
  have g__law_front : Q__law_front P w K mg base (tabT K lams_) := ok__law_front T g__law_came g__law_simple (fun_mk (st := s__law_front) l22 c22 k22) (PySem.W.mg_of X0 G a22)
  exact own_law T g_front_of g__law_state g__law_net g__law_ends g__law_front (fun_mk (st := s_law) l23 c23 k23)
end FL
open PySem PySem.W PyProof.Rows
set_option maxHeartbeats 0 in
theorem PySem.Challenge.cw_waysranked_k50_fronts_told_holds : PySem.Challenge.rw_waysranked_k50_fronts_told.Holds := by
  w_on; o_law; k_head; (case hw => w_witness2)
  k_fill
  refine FL.walkG (l := PySem.Challenge.rw_waysranked_k50_fronts_told) (n := 63) (k := 7) (x := "_law_script") (fr := false) (m := FL.m_law) rfl (by decide) rfl ⟨rfl, by decide, by decide⟩ (fun w h Y => by first | exact PySem.W.kIn_of Y | exact PySem.W.km_in_of Y) ?F FL.law_true
  case F =>
    intro w mg mb mean fa h Y KX G hmg
    refine' FL.all_mk KX G hmg ?a0 ?l0 ?c0 ?k0 ?a1 ?l1 ?c1 ?k1 ?a2 ?l2 ?c2 ?k2 ?a3 ?l3 ?c3 ?k3 ?a4 ?l4 ?c4 ?k4 ?a5 ?l5 ?c5 ?k5 ?a6 ?l6 ?c6 ?k6 ?a7 ?l7 ?c7 ?k7 ?a8 ?l8 ?c8 ?k8 ?a9 ?l9 ?c9 ?k9 ?a10 ?l10 ?c10 ?k10 ?a11 ?l11 ?c11 ?k11 ?a12 ?l12 ?c12 ?k12 ?a13 ?l13 ?c13 ?k13 ?a14 ?l14 ?c14 ?k14 ?a15 ?l15 ?c15 ?k15 ?a16 ?l16 ?c16 ?k16 ?a17 ?l17 ?c17 ?k17 ?a18 ?l18 ?c18 ?k18 ?a19 ?l19 ?c19 ?k19 ?a20 ?l20 ?c20 ?k20 ?a21 ?l21 ?c21 ?k21 ?a22 ?l22 ?c22 ?k22 ?a23 ?l23 ?c23 ?k23 ?z_all ?z_bool ?z_enumerate ?z_int ?z_isinstance ?z_len ?z_max ?z_min ?z_range ?z_repr ?z_sorted ?z_tuple ?y_MOST_COST ?y_MOST_PLACES ?y_MOST_ROADS ?y_MOST_TIME ?xb_NoNet ?xb_NoPlace
    (case a0 => k_is)
    (case l0 => k_is)
    (case c0 => k_is)
    (case k0 => k_is)
    (case a1 => k_is)
    (case l1 => k_is)
    (case c1 => k_is)
    (case k1 => k_is)
    (case a2 => k_is)
    (case l2 => k_is)
    (case c2 => k_is)
    (case k2 => k_is)
    (case a3 => k_is)
    (case l3 => k_is)
    (case c3 => k_is)
    (case k3 => k_is)
    (case a4 => k_is)
    (case l4 => k_is)
    (case c4 => k_is)
    (case k4 => k_is)
    (case a5 => k_is)
    (case l5 => k_is)
    (case c5 => k_is)
    (case k5 => k_is)
    (case a6 => k_is)
    (case l6 => k_is)
    (case c6 => k_is)
    (case k6 => k_is)
    (case a7 => k_is)
    (case l7 => k_is)
    (case c7 => k_is)
    (case k7 => k_is)
    (case a8 => k_is)
    (case l8 => k_is)
    (case c8 => k_is)
    (case k8 => k_is)
    (case a9 => k_is)
    (case l9 => k_is)
    (case c9 => k_is)
    (case k9 => k_is)
    (case a10 => k_is)
    (case l10 => k_is)
    (case c10 => k_is)
    (case k10 => k_is)
    (case a11 => k_is)
    (case l11 => k_is)
    (case c11 => k_is)
    (case k11 => k_is)
    (case a12 => k_is)
    (case l12 => k_is)
    (case c12 => k_is)
    (case k12 => k_is)
    (case a13 => k_is)
    (case l13 => k_is)
    (case c13 => k_is)
    (case k13 => k_is)
    (case a14 => k_is)
    (case l14 => k_is)
    (case c14 => k_is)
    (case k14 => k_is)
    (case a15 => k_is)
    (case l15 => k_is)
    (case c15 => k_is)
    (case k15 => k_is)
    (case a16 => k_is)
    (case l16 => k_is)
    (case c16 => k_is)
    (case k16 => k_is)
    (case a17 => k_is)
    (case l17 => k_is)
    (case c17 => k_is)
    (case k17 => k_is)
    (case a18 => k_is)
    (case l18 => k_is)
    (case c18 => k_is)
    (case k18 => k_is)
    (case a19 => k_is)
    (case l19 => k_is)
    (case c19 => k_is)
    (case k19 => k_is)
    (case a20 => k_is)
    (case l20 => k_is)
    (case c20 => k_is)
    (case k20 => k_is)
    (case a21 => k_is)
    (case l21 => k_is)
    (case c21 => k_is)
    (case k21 => k_is)
    (case a22 => k_is)
    (case l22 => k_is)
    (case c22 => k_is)
    (case k22 => k_is)
    (case a23 => k_is)
    (case l23 => k_is)
    (case c23 => k_is)
    (case k23 => k_is)
    (case z_all => k_is)
    (case z_bool => k_is)
    (case z_enumerate => k_is)
    (case z_int => k_is)
    (case z_isinstance => k_is)
    (case z_len => k_is)
    (case z_max => k_is)
    (case z_min => k_is)
    (case z_range => k_is)
    (case z_repr => k_is)
    (case z_sorted => k_is)
    (case z_tuple => k_is)
    (case y_MOST_COST => exact ⟨_, by k_is⟩)
    (case y_MOST_PLACES => exact ⟨_, by k_is⟩)
    (case y_MOST_ROADS => exact ⟨_, by k_is⟩)
    (case y_MOST_TIME => exact ⟨_, by k_is⟩)
    (case xb_NoNet => kernel_rfl)
    (case xb_NoPlace => kernel_rfl)
