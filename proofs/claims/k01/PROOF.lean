import PyProof.Rows.All
import PyProof.IsiBase
import PyProof.FactsAll.object
import HandS.IsInst
import HandS.ForMost
import HandS.Exc
import HandS.Lambda
import HandS.TupAny
import HandS.Wide
import HandS.Style
import HandS.WordsExc
import HandS.ExcOwn
import HandS.ExcIs
import HandS.HotCalls
import KE.GoesEnum
import HandS.Iter
import HandS.Zip
import HandS.SetFor
import HandS.Deep
import KE.KNest
import HandS.Conv
import PyProof.ReprLen
import PyProof.Rows.StrOr
import PyProof.ReprRoads
import KE.SortData
import HandS.TupMul
import HandS.Dict
import HandS.Defaults
import HandS.Set
import KE.DataMinMax
import HandS.Flow
import HandS.Text
import HandS.SetKeys
import KE.DataFind
import PyProof.CollectIter
import HandS.DictComp
import KE.LtData
import KE.KDictDisplayH
import KE.KTurns
import HandS.TupSets
import KE.KeyNested
import KE.GoesEnumKw
import HandS.SortKw
import KE.IntTextLaws
import HandS.ExcInit
import PyProof.StrBlock2
import PyProof.Rows.StrSplitJoin
import PyProof.StrLawsChain
import HandS.SortInts
import KE.KTupSum
import KE.KDictZip
import HandS.Zip0
import PyProof.ListNew
import HandS.GenBody
import HandS.ExcValue
import PySem.Challenge.RW_waysranked_k01_nets_known
set_option Elab.async false
set_option linter.all false
set_option autoImplicit false
set_option maxRecDepth 100000
set_option maxHeartbeats 4000000
namespace FL
open PySem PySem.Calls PyProof.Rows
open PySem.Sem (wp)
theorem fnC_slot : Slot "function" "__getattribute__" "object.__getattribute__" :=
  .of (owner := "object") (n := "__getattribute__") (by rw [typeLookup_type, builtinLookup_eq_fast]; kernel_rfl) (by decide +kernel) (by decide +kernel) (by decide +kernel)
    (by first | exact .inl (by decide +kernel) | exact .inr (by decide +kernel)) (by rw [isSubtype_type]; kernel_rfl)
theorem fnC_look : typeLookup (.type "function") "__class__" = pure (some (.builtin "object.__class__")) := by rw [typeLookup_type, builtinLookup_eq_fast]; kernel_rfl
theorem fnC_sub : isSubtype (.type "function") (.type (".".intercalate ("object.__class__".cutAt '.').dropLast)) = pure true := by
  rw [F.owner_object_class, isSubtype_type]; kernel_rfl
section
variable {prog : Program} {w : World} {A : Around} {E : Value → Shared → Prop} {h : Heap} {g : Array GenState} {d : Drawn} {t : Nat} {os : OsState} {a : Addr} {o : Obj}
theorem fnC_get {R : Result → Shared → Prop} (hx : h.get? a = some o) (hc : o.cls = .type "function") (hq : R (.ok (.ret (.type "function"))) ⟨h, g, d, t, os⟩) :
    codeAny (model prog w) A (.call (.builtin "getset_descriptor.__get__") ⟨[.builtin "object.__class__", .ref a, .type "function"], []⟩) R ⟨h, g, d, t, os⟩ := by
  have k1 : (⟨h, g, d, t, os⟩ : Shared).TypeIs (.ref a) "function" := ⟨_, hx, hc⟩
  have k2 : (⟨h, g, d, t, os⟩ : Shared).TypeIs (.builtin "object.__class__") "getset_descriptor" := F.typeOf_object_class
  have k3 := fnC_sub
  refine codeAny_call_builtin F.slot_gs_get.plain F.entry_gs_get (F.slot_gs_get.check _ _ _ _ _ _ _ _ k2 (F.args_gs_get _ _ _) ?_)
  repeat (any_goals (first | assumption | wp_step))
  refine ⟨Code.quiet_builtin _ (by decide +kernel), codeAny_builtin F.entry_object_class ?_⟩
  repeat (any_goals (first | assumption | wp_step))
theorem fnC_body {tk : Tok} {Q : Fin → Shared → Prop} (hx : h.get? a = some o) (hc : o.cls = .type "function") (hq : Q (.done (.ret (.type "function"))) ⟨h, g, d, t, os⟩) : wpAny (model prog w) A (Builtin.«object.__getattribute__» ⟨[.ref a, .str "__class__" tk], []⟩) Q E ⟨h, g, d, t, os⟩ := by
  have k1 : (⟨h, g, d, t, os⟩ : Shared).TypeIs (.ref a) "function" := ⟨_, hx, hc⟩
  have k2 : (⟨h, g, d, t, os⟩ : Shared).TypeIs (.builtin "object.__class__") "getset_descriptor" := F.typeOf_object_class
  have f4 := fnC_look
  have f5 := F.typeOf_object_class
  have f6 := F.slot_gs_get.lookup
  have f7 := F.slot_gs_set.lookup
  repeat (any_goals (first | assumption | wp_step))
  refine fnC_get hx hc ?_
  repeat (any_goals (first | assumption | wp_step))
theorem fnC_call {tk : Tok} {R : Result → Shared → Prop} (hx : h.get? a = some o) (hc : o.cls = .type "function") (hq : R (.ok (.ret (.type "function"))) ⟨h, g, d, t, os⟩) :
    codeAny (model prog w) A (.call (.builtin "object.__getattribute__") ⟨[.ref a, .str "__class__" tk], []⟩) R ⟨h, g, d, t, os⟩ :=
  codeAny_call_builtin fnC_slot.plain F.entry_object_getattribute (fnC_slot.check _ _ _ _ _ _ _ _ (show (⟨h, g, d, t, os⟩ : Shared).TypeIs (.ref a) "function" from ⟨_, hx, hc⟩) (F.args_object_getattribute_2 _ _) (fnC_body hx hc hq))
theorem fnC_by {tk : Tok} {Q : Value → Shared → Prop} (hx : h.get? a = some o) (hc : o.cls = .type "function") (hq : Q (.type "function") ⟨h, g, d, t, os⟩) : wpAny (model prog w) A (getAttrBy (.ref a) (.str "__class__" tk) false) Q E ⟨h, g, d, t, os⟩ := by
  have k1 : (⟨h, g, d, t, os⟩ : Shared).TypeIs (.ref a) "function" := ⟨_, hx, hc⟩
  have f2 := fnC_slot.lookup
  have f3 := fnC_slot.bind (.ref a)
  repeat (any_goals (first | assumption | wp_step))
  refine fnC_call hx hc ?_
  repeat (any_goals (first | assumption | wp_step))
theorem fnC_attr {Q : Option Value → Shared → Prop} (hx : h.get? a = some o) (hc : o.cls = .type "function") (hq : Q (some (.type "function")) ⟨h, g, d, t + 1, os⟩) : wpAny (model prog w) A (getAttr? (.ref a) "__class__") Q E ⟨h, g, d, t, os⟩ := by
  unfold getAttr? getAttrBy?
  repeat (any_goals (first | assumption | with_reducible apply fnC_by hx hc | wp_step))
end
theorem fnC_kit {K : PySem.W.Frag} {a : Addr} : PySem.W.KitX K (.ref a) (.type "function") (PySem.W.KitAt a "function") := PySem.W.kitx_of PySem.W.kitAt_ty (fun {_ _ _ _ _ s} p k => by
  obtain ⟨h, g, d, t, os⟩ := s
  obtain ⟨o, h1, h2⟩ := p
  exact fnC_attr h1 h2 k)
end FL
namespace FL
open PySem PySem.Spec PyProof.Rows L2
abbrev St := L2.St
/-- an exception: its class's name, its fields -/
structure Exn where
  cls : Str
  fs : List (Str × PyData)
/-- what an expression gives: data, or the n-th object of the def's own, an inner list of such an object, an exception that is held, a tuple of such an object and data -/
inductive Sl where
  | val (d : PyData)
  | loc (n : Nat)
  | inn (n i : Nat)
  | exn (x : Exn)
  | pr (n : Nat) (d : PyData)
abbrev Slot := Option Sl
/-- a field of an instance: data, or a list or a dict that is changed by the field -/
inductive Fv where
  | dat (d : PyData)
  | lst (ds : List PyData)
  | dic (kvs : List (Key × PyData))
/-- an object of the def's own -/
inductive Ob where
  | lst (ds : List PyData)
  | dic (kvs : List (Key × PyData))
  | lls (dss : List (List PyData))
  | dil (dss : List (List PyData)) (ks : List (Key × Nat))
  | dtp (ks : List (List Int))
  | dtq (kvs : List (List Int × PyData))
  | ins (c : Str) (fs : List (Str × Fv))
  | gone
abbrev Hs := List Ob
inductive Rz (α : Type) where
  | ok (a : α) (h : Hs)
  | err (x : Exn) (h : Hs)
  | bad
def Rz.bind {α β : Type} (r : Rz α) (f : α → Hs → Rz β) : Rz β := match r with
  | .ok a h => f a h
  | .err x h => .err x h
  | .bad => .bad
abbrev En := List Slot
abbrev Ev := En → Hs → Rz Sl
abbrev Tv := En → Hs → Rz Bool
abbrev Av := En → Hs → Rz (List Sl)
inductive Fl where
  | next (e : En) (h : Hs)
  | ret (s : Sl) (h : Hs)
  | brk (e : En) (h : Hs)
  | cont (e : En) (h : Hs)
  | err (x : Exn) (e : En) (h : Hs)
  | bad
abbrev Sv := En → Hs → Fl
abbrev Ms := Addr → Prop
def QL (K : PySem.W.Frag) (H : Hp) (M : Ms) (a : Addr) (xs : List V) : Prop :=
  (Rd H a (.lst xs) ∧ ¬ M a) ∨
    ∃ (its : Array Value) (n : Nat), K.lookup a = some { cls := .type "list", data := .seq its n } ∧ its.size ≤ sizeLine ∧ Vals xs its.toList
def QT (K : PySem.W.Frag) (H : Hp) (M : Ms) (a : Addr) (xs : List V) : Prop :=
  (Rd H a (.tup xs) ∧ ¬ M a) ∨
    ∃ (o : Obj) (its : Array Value) (n : Nat), K.lookup a = some o ∧ o.cls = .type "tuple" ∧ o.data = .seq its n ∧ its.size ≤ sizeLine ∧ Vals xs its.toList
theorem QL.sq {K : PySem.W.Frag} {H : Hp} {M : Ms} {a : Addr} {xs : List V} (h : QL K H M a xs) : SqL K H a xs := by
  rcases h with h | ⟨its, n, h1, h2, h3⟩
  · exact .inl h.1
  · exact .inr ⟨_, its, n, h1, rfl, rfl, rfl, h2, h3⟩
theorem QT.sq {K : PySem.W.Frag} {H : Hp} {M : Ms} {a : Addr} {xs : List V} (h : QT K H M a xs) : SqT K H a xs := by
  rcases h with h | h
  · exact .inl h.1
  · exact .inr h
/-- a dict of whole numbers -/
def dcV (ps : List (Int × Int)) : List (Key × V) := ps.map fun p => (Sum.inl p.1, V.int p.2)
def dcD (ps : List (Int × Int)) : List (PyData × PyData) := ps.map fun p => (.int p.1, .int p.2)
def lam3 : List Str := ["_law_one", "_law_two", "_law_far"]
/-- n times None -/
inductive Nones : Nat → List Expr → Prop
  | nil : Nones 0 []
  | cons {n : Nat} {k : _} {p : Pos} {es : List Expr} : Nones n es → Nones (n + 1) (.Constant .none k p :: es)
structure LamIs (x : Str) (n : Nat) (params : Arguments) (body : Expr) (scope : Scope) : Prop where
  bdy : ∃ (p1 q1 q2 q3 p2 : Pos) (es : List Expr), Nones n es ∧ body = .Call (.Name x p1) (.Name "_law_one" q1 :: .Name "_law_two" q2 :: .Name "_law_far" q3 :: es) [] p2
  sc : FnScope lam3 lam3 scope
  loc : ∀ y ∈ lam3, scope.names.lookup y = some .local
  glob : scope.names.lookup x = some .globalImplicit
  own : ∀ y ∈ scope.names, y.2 ≠ .free ∧ y.2 ≠ .cell
  dbg : (x == ("__debug__" : Str)) = false
  bind : ∀ (q : Str) (pm cv ctv u v w : Value), bindArgs (PySem.W.kla_fn "<lambda>" q params body scope [] pm cv ctv) ⟨[u, v, w], []⟩ = pure (lam3.zip [u, v, w])
def LamFn (a c : Addr) (q x : Str) (n : Nat) : HO := .ext fun h => ∃ (params : Arguments) (body : Expr) (scope : Scope) (pm ctv : Value), LamIs x n params body scope ∧ h.get? a = some (PySem.W.kla_obj "<lambda>" q params body scope [] pm c ctv)
/-- things that stay: a dict of whole numbers, a lambda -/
inductive Fz where
  | dic (ps : List (Int × Int))
  | lam (x : Str) (n : Nat)
  | gfn (x : Str)
def bigZ : Int := ((2 ^ 2000 : Nat) : Int)
def fnV (x : Str) (n : Nat) : List (PyData × PyData) := [(.str x, .int (n : Nat)), (.int bigZ, .none)]
@[simp] def isFn : List (PyData × PyData) → Bool
  | [(.str _, .int _), (.int _, .none)] => true
  | _ => false
theorem fnV_hid (x : Str) (n : Nat) : PyData.showable (.dict (fnV x n)) = false := by
  have h : PyData.showable (.int bigZ) = false := by decide +kernel
  simp [fnV, PyData.showable, PyData.showableKv] at h ⊢
  intro _
  exact h
def fzD : Fz → List (PyData × PyData)
  | .dic ps => dcD ps
  | .lam x n => fnV x n
  | .gfn x => [(.str x, .int (-1)), (.int bigZ, .none)]
theorem gfn_hid (x : Str) : PyData.showable (.dict (fzD (.gfn x))) = false := by
  have h : PyData.showable (.int bigZ) = false := by decide +kernel
  simp [fzD, PyData.showable, PyData.showableKv] at h ⊢
  intro _
  exact h
/-- it stands there; a dict may be locked -/
def RdK (H : Hp) (a : Addr) (o : HO) : Prop := H a = some o ∨ ∃ ob kvs, o = .dK kvs ∧ H a = some (.frz ob o)
theorem RdK.rd {H : Hp} {a : Addr} {o : HO} (h : RdK H a o) : Rd H a o := h.imp id fun ⟨ob, _, _, e⟩ => ⟨ob, e⟩
def QD (K : PySem.W.Frag) (H : Hp) (M : Ms) (a : Addr) : Fz → Prop
  | .dic ps => RdK H a (.dK (dcV ps)) ∧ ¬ M a
  | .lam x n => ∃ (c : Addr) (q : Str), H a = some (LamFn a c q x n) ∧ ¬ M a ∧ H c = some (LamX.CodeO c q) ∧ ¬ M c
  | .gfn x => PySem.W.nsIn K mainGlobals x = some (some (.ref a)) ∧ ∃ o : Obj, K.lookup a = some o ∧ o.cls = .type "function"
inductive Od where
  | dic (ks : List Key)
  | ins (c : Str) (fs : List Str)
def kyD : Key → PyData
  | .inl i => .int i
  | .inr x => .str x
def odH : Od → PyData
  | .dic ks => .list (ks.map kyD)
  | .ins c fs => .tuple (.str c :: fs.map .str)
def odD (w : Od) (ds : List PyData) : List (PyData × PyData) := [(.int bigZ, odH w), (.int bigZ, .list ds)]
/-- an own class by its name, as the rules for its instances want it -/
structure InsC (K : PySem.W.Frag) (c : Str) (Ca : Addr) : Prop where
  g : PySem.W.nsIn K mainGlobals c = some (some (.ref Ca))
  cls : Cls K Ca
  ha : PySem.W.findIn K (.ref Ca) "__class__" = some (some (.builtin "object.__class__"))
  hn : PySem.W.specialIn K (.builtin "object.__class__") "__get__" = some (some (.builtin "getset_descriptor.__get__"))
  ht : PySem.W.takesIn K (.builtin "object.__class__") = some true
  hm : PySem.W.mroIn K Ca (.type "object") = some true
  ty : ∀ t ∈ (["int", "bool", "tuple", "str", "list"] : List String), PySem.W.kitOne K (.ref Ca) (.type t) = some false
def OdOk (K : PySem.W.Frag) (o : HO) (vs : List V) : Od → Prop
  | .dic ks => o = .dK (ks.zip vs) ∧ ks.length = vs.length
  | .ins c fs => ∃ Ca dx, InsC K c Ca ∧ o = .ins Ca dx (fs.zip vs) ∧ fs.length = vs.length
theorem OdOk.nt {K : PySem.W.Frag} {o : HO} {vs : List V} {w : Od} (h : OdOk K o vs w) : ∀ ps : Array Value, o ≠ .tbl ps := fun ps z => by
  subst z
  cases w with
  | dic ks => cases h.1
  | ins c fs =>
    obtain ⟨_, _, _, e, _⟩ := h
    cases e
theorem odD_hid (w : Od) (ds : List PyData) : PyData.showable (.dict (odD w ds)) = false := by
  have h : PyData.showable (.int bigZ) = false := by decide +kernel
  have e : PyData.showable (.dict (odD w ds)) = PyData.showableKv (odD w ds) := by simp only [PyData.showable]
  rw [e]
  unfold odD
  simp only [PyData.showableKv, h, Bool.false_and, Bool.and_false]
/-- that it stands there, none of the barred -/
def HeldO (H : Hp) (M : Ms) (a : Addr) (o : HO) : Prop := RdK H a o ∧ ¬ M a
mutual
inductive Rp (K : PySem.W.Frag) (H : Hp) (M : Ms) : V → PyData → Prop
  | non : Rp K H M .non .none
  | bl (b : Bool) : Rp K H M (.bl b) (.bool b)
  | int (i : Int) : Rp K H M (.int i) (.int i)
  | str (x : Str) : Rp K H M (.str x) (.str x)
  | lst {a : Addr} {xs : List V} {ds : List PyData} : QL K H M a xs → RpAll K H M xs ds → Rp K H M (.ref a) (.list ds)
  | tup {a : Addr} {xs : List V} {ds : List PyData} : QT K H M a xs → RpAll K H M xs ds → Rp K H M (.ref a) (.tuple ds)
  | dct {a : Addr} (ps : Fz) {ds : List (PyData × PyData)} : QD K H M a ps → ds = fzD ps → Rp K H M (.ref a) (.dict ds)
  | obj {a : Addr} {o : HO} {vs : List V} (w : Od) {ds : List PyData} {kvs : List (PyData × PyData)} : HeldO H M a o → OdOk K o vs w → RpAll K H M vs ds → kvs = odD w ds → Rp K H M (.ref a) (.dict kvs)
inductive RpAll (K : PySem.W.Frag) (H : Hp) (M : Ms) : List V → List PyData → Prop
  | nil : RpAll K H M [] []
  | cons {v : V} {vs : List V} {d : PyData} {ds : List PyData} : Rp K H M v d → RpAll K H M vs ds → RpAll K H M (v :: vs) (d :: ds)
end
section
variable {K : PySem.W.Frag} {H H' : Hp} {M M' : Ms}
mutual
theorem Rp.map (f : ∀ a xs, QL K H M a xs → QL K H' M' a xs) (g : ∀ a xs, QT K H M a xs → QT K H' M' a xs) (k : ∀ a ps, QD K H M a ps → QD K H' M' a ps) (j : ∀ a o vs w, OdOk K o vs w → HeldO H M a o → HeldO H' M' a o) : ∀ (d : PyData) (v : V), Rp K H M v d → Rp K H' M' v d
  | .none, _, h => by cases h; exact .non
  | .bool b, _, h => by cases h; exact .bl b
  | .int i, _, h => by cases h; exact .int i
  | .str x, _, h => by cases h; exact .str x
  | .list ds, _, h => by
    cases h with
    | lst h1 h2 => exact .lst (f _ _ h1) (RpAll.map f g k j ds _ h2)
  | .tuple ds, _, h => by
    cases h with
    | tup h1 h2 => exact .tup (g _ _ h1) (RpAll.map f g k j ds _ h2)
  | .dict _, _, h => by
    cases h with
    | dct ps h1 h2 => exact .dct ps (k _ _ h1) h2
    | obj w h1 h2 h3 he => exact .obj w (j _ _ _ _ h2 h1) h2 (RpAll.map f g k j _ _ h3) he
  termination_by d => sizeOf d
  decreasing_by all_goals (first | (subst_vars; simp [odD]; omega) | (simp_wf; omega) | decreasing_tactic)
theorem RpAll.map (f : ∀ a xs, QL K H M a xs → QL K H' M' a xs) (g : ∀ a xs, QT K H M a xs → QT K H' M' a xs) (k : ∀ a ps, QD K H M a ps → QD K H' M' a ps) (j : ∀ a o vs w, OdOk K o vs w → HeldO H M a o → HeldO H' M' a o) : ∀ (ds : List PyData) (vs : List V), RpAll K H M vs ds → RpAll K H' M' vs ds
  | [], _, h => by cases h; exact .nil
  | d :: ds, _, h => by
    cases h with
    | cons h1 h2 => exact .cons (Rp.map f g k j d _ h1) (RpAll.map f g k j ds _ h2)
  termination_by ds => sizeOf ds
  decreasing_by all_goals (first | (subst_vars; simp [odD]; omega) | (simp_wf; omega) | decreasing_tactic)
end
mutual
theorem Rp.dp : ∀ (d : PyData) (v : V), d.hasDict = false → Rp K H M v d → Dp K H v d
  | .none, _, _, h => by cases h; exact .non
  | .bool b, _, _, h => by cases h; exact .bl b
  | .int i, _, _, h => by cases h; exact .int i
  | .str x, _, _, h => by cases h; exact .str x
  | .list ds, _, n, h => by
    cases h with
    | lst h1 h2 => exact .lst h1.sq (RpAll.dp ds _ (by simpa only [PyData.hasDict] using n) h2)
  | .tuple ds, _, n, h => by
    cases h with
    | tup h1 h2 => exact .tup h1.sq (RpAll.dp ds _ (by simpa only [PyData.hasDict] using n) h2)
  | .dict _, _, n, h => by simp [PyData.hasDict] at n
theorem RpAll.dp : ∀ (ds : List PyData) (vs : List V), PyData.hasDictAll ds = false → RpAll K H M vs ds → DpAll K H vs ds
  | [], _, _, h => by cases h; exact .nil
  | d :: ds, _, n, h => by
    cases h with
    | cons h1 h2 =>
      have n' : (PyData.hasDict d || PyData.hasDictAll ds) = false := by simpa only [PyData.hasDictAll] using n
      rw [Bool.or_eq_false_iff] at n'
      exact .cons (Rp.dp d _ n'.1 h1) (RpAll.dp ds _ n'.2 h2)
end
theorem RpAll.length : ∀ {vs : List V} {ds : List PyData}, RpAll K H M vs ds → vs.length = ds.length
  | _, _, .nil => rfl
  | _, _, .cons _ t => congrArg (· + 1) (RpAll.length t)
theorem RpAll.get : ∀ {vs : List V} {ds : List PyData} {i : Nat} {d : PyData}, RpAll K H M vs ds → ds[i]? = some d → ∃ v, vs[i]? = some v ∧ Rp K H M v d
  | _, _, _, _, .nil, e => by simp at e
  | _, _, 0, _, .cons r _, e => by simp at e; subst e; exact ⟨_, rfl, r⟩
  | _, _, i + 1, _, .cons _ t, e => by
    obtain ⟨v, h1, h2⟩ := RpAll.get (i := i) t (by simpa using e)
    exact ⟨v, by simpa using h1, h2⟩
theorem RpAll.set {v : V} {d : PyData} (r : Rp K H M v d) : ∀ {vs : List V} {ds : List PyData} (i : Nat), RpAll K H M vs ds → RpAll K H M (vs.set i v) (ds.set i d)
  | _, _, _, .nil => .nil
  | _, _, 0, .cons _ t => .cons r t
  | _, _, i + 1, .cons q t => .cons q (RpAll.set r i t)
theorem RpAll.append : ∀ {vs ws : List V} {ds es : List PyData}, RpAll K H M vs ds → RpAll K H M ws es → RpAll K H M (vs ++ ws) (ds ++ es)
  | _, _, _, _, .nil, s => s
  | _, _, _, _, .cons r t, s => .cons r (RpAll.append t s)
theorem RpAll.take : ∀ {vs : List V} {ds : List PyData} (n : Nat), RpAll K H M vs ds → RpAll K H M (vs.take n) (ds.take n)
  | _, _, 0, _ => .nil
  | _, _, _ + 1, .nil => .nil
  | _, _, n + 1, .cons r t => .cons r (RpAll.take n t)
theorem RpAll.drop : ∀ {vs : List V} {ds : List PyData} (n : Nat), RpAll K H M vs ds → RpAll K H M (vs.drop n) (ds.drop n)
  | _, _, 0, r => r
  | _, _, _ + 1, .nil => .nil
  | _, _, n + 1, .cons _ t => RpAll.drop n t
theorem RpAll.rev {vs : List V} {ds : List PyData} (h : RpAll K H M vs ds) : RpAll K H M vs.reverse ds.reverse := by
  induction vs generalizing ds with
  | nil => cases h; exact .nil
  | cons v vs ih =>
    cases h with
    | cons r t =>
      rw [List.reverse_cons, List.reverse_cons]
      exact RpAll.append (ih t) (.cons r .nil)
end
/-- it stays; a table may grow -/
def Kp (o o' : HO) : Prop := o' = o ∨ ∃ ps ps' : Array Value, o = .tbl ps ∧ o' = .tbl ps'
def NT (o : HO) : Prop := ∀ ps : Array Value, o ≠ .tbl ps
theorem Kp.trans {a b c : HO} (x : Kp a b) (y : Kp b c) : Kp a c := by
  rcases x with rfl | ⟨p, q, rfl, rfl⟩
  · exact y
  · rcases y with rfl | ⟨p', q', _, rfl⟩
    · exact .inr ⟨p, q, rfl, rfl⟩
    · exact .inr ⟨p, q', rfl, rfl⟩
theorem Kp.nt {a b : HO} (x : Kp a b) (n : NT a) : b = a := by
  rcases x with rfl | ⟨p, q, rfl, rfl⟩
  · rfl
  · exact absurd rfl (n p)
theorem nt_lst {xs : List V} : NT (.lst xs) := fun _ z => nomatch z
structure Stp (M : Ms) (H : Hp) (M' : Ms) (H' : Hp) : Prop where
  keepK : ∀ b o, H b = some o → ¬ M b → ∃ o', H' b = some o' ∧ Kp o o'
  new : ∀ b, M' b → M b ∨ H b = none
theorem Stp.keep {M M' : Ms} {H H' : Hp} (s : Stp M H M' H') {b : Addr} {o : HO} (e : H b = some o) (n : ¬ M b) (t : NT o) : H' b = some o := by
  obtain ⟨o', e', k⟩ := s.keepK b o e n
  rw [e', k.nt t]
theorem keepE {H H' : Hp} {M : Ms} (f : ∀ b o, H b = some o → ¬ M b → H' b = some o) : ∀ b o, H b = some o → ¬ M b → ∃ o', H' b = some o' ∧ Kp o o' := fun b o e n => ⟨o, f b o e n, .inl rfl⟩
theorem Stp.refl (M : Ms) (H : Hp) : Stp M H M H := ⟨keepE fun _ _ e _ => e, fun _ m => .inl m⟩
theorem Stp.trans {M M1 M2 : Ms} {H H1 H2 : Hp} (a : Stp M H M1 H1) (b : Stp M1 H1 M2 H2) : Stp M H M2 H2 where
  keepK := fun c o e n => by
    obtain ⟨o1, e1, k1⟩ := a.keepK c o e n
    obtain ⟨o2, e2, k2⟩ := b.keepK c o1 e1 fun m => by
      rcases a.new c m with q | q
      · exact n q
      · rw [e] at q; cases q
    exact ⟨o2, e2, k1.trans k2⟩
  new := fun c m => by
    rcases b.new c m with q | q
    · exact a.new c q
    · by_cases hm : M c
      · exact .inl hm
      · refine .inr ?_
        cases e : H c with
        | none => rfl
        | some o =>
          obtain ⟨o', e', _⟩ := a.keepK c o e hm
          rw [e'] at q; cases q
section
variable {K : PySem.W.Frag} {H H' : Hp} {M M' : Ms}
theorem Rd.stp {a : Addr} {u : HO} (s : Stp M H M' H') (h : Rd H a u) (n : ¬ M a) (t : NT u) : Rd H' a u ∧ ¬ M' a := by
  have key : ∀ o, H a = some o → NT o → H' a = some o ∧ ¬ M' a := fun o e t => ⟨s.keep e n t, fun m => by
    rcases s.new a m with q | q
    · exact n q
    · rw [e] at q; cases q⟩
  rcases h with h | ⟨o, h⟩
  · exact ⟨.inl (key _ h t).1, (key _ h t).2⟩
  · exact ⟨.inr ⟨o, (key _ h fun _ z => (nomatch z)).1⟩, (key _ h fun _ z => (nomatch z)).2⟩
theorem QL.stp {a : Addr} {xs : List V} (s : Stp M H M' H') (h : QL K H M a xs) : QL K H' M' a xs := by
  rcases h with h | h
  · exact .inl (Rd.stp s h.1 h.2 fun _ z => nomatch z)
  · exact .inr h
theorem QT.stp {a : Addr} {xs : List V} (s : Stp M H M' H') (h : QT K H M a xs) : QT K H' M' a xs := by
  rcases h with h | h
  · exact .inl (Rd.stp s h.1 h.2 fun _ z => nomatch z)
  · exact .inr h
theorem RdK.stp {a : Addr} {u : HO} (s : Stp M H M' H') (h : RdK H a u) (n : ¬ M a) (t : NT u) : RdK H' a u ∧ ¬ M' a := by
  have key : ∀ o, H a = some o → NT o → H' a = some o ∧ ¬ M' a := fun o e t => ⟨s.keep e n t, fun m => by
    rcases s.new a m with q | q
    · exact n q
    · rw [e] at q; cases q⟩
  rcases h with h | ⟨o, k, e, h⟩
  · exact ⟨.inl (key _ h t).1, (key _ h t).2⟩
  · exact ⟨.inr ⟨o, k, e, (key _ h fun _ z => (nomatch z)).1⟩, (key _ h fun _ z => (nomatch z)).2⟩
theorem QD.stp {a : Addr} {ps : Fz} (s : Stp M H M' H') (h : QD K H M a ps) : QD K H' M' a ps := by
  have nw : ∀ {b : Addr} {o : HO}, H b = some o → ¬ M b → ¬ M' b := fun {b o} e n m => by
    rcases s.new b m with q | q
    · exact n q
    · rw [e] at q; cases q
  cases ps with
  | dic ps => exact RdK.stp s h.1 h.2 fun _ z => nomatch z
  | lam x n =>
    obtain ⟨c, q, h1, h2, h3, h4⟩ := h
    exact ⟨c, q, s.keep h1 h2 (fun _ z => nomatch z), nw h1 h2, s.keep h3 h4 (fun _ z => nomatch z), nw h3 h4⟩
  | gfn x => exact h
theorem HeldO.stp {a : Addr} {o : HO} (s : Stp M H M' H') (t : NT o) (h : HeldO H M a o) : HeldO H' M' a o := RdK.stp s h.1 h.2 t
theorem Stp.held {a : Addr} {o : HO} (s : Stp M H M' H') (t : NT o) (h : H a = some o ∧ ¬ M a) : H' a = some o ∧ ¬ M' a := ⟨s.keep h.1 h.2 t, fun m => by
  rcases s.new a m with q | q
  · exact h.2 q
  · rw [h.1] at q; cases q⟩
theorem Rp.stp {v : V} {d : PyData} (s : Stp M H M' H') (h : Rp K H M v d) : Rp K H' M' v d := Rp.map (fun _ _ => QL.stp s) (fun _ _ => QT.stp s) (fun _ _ => QD.stp s) (fun _ _ _ _ w => HeldO.stp s w.nt) d v h
theorem RpAll.stp {vs : List V} {ds : List PyData} (s : Stp M H M' H') (h : RpAll K H M vs ds) : RpAll K H' M' vs ds := RpAll.map (fun _ _ => QL.stp s) (fun _ _ => QT.stp s) (fun _ _ => QD.stp s) (fun _ _ _ _ w => HeldO.stp s w.nt) ds vs h
/-- fewer are barred -/
theorem QL.fewer {a : Addr} {xs : List V} (s : ∀ b, M' b → M b) (h : QL K H M a xs) : QL K H M' a xs := by
  rcases h with h | h
  · exact .inl ⟨h.1, fun m => h.2 (s _ m)⟩
  · exact .inr h
theorem QT.fewer {a : Addr} {xs : List V} (s : ∀ b, M' b → M b) (h : QT K H M a xs) : QT K H M' a xs := by
  rcases h with h | h
  · exact .inl ⟨h.1, fun m => h.2 (s _ m)⟩
  · exact .inr h
theorem QD.fewer {a : Addr} {ps : Fz} (s : ∀ b, M' b → M b) (h : QD K H M a ps) : QD K H M' a ps := by
  cases ps with
  | dic ps => exact ⟨h.1, fun m => h.2 (s _ m)⟩
  | lam x n =>
    obtain ⟨c, q, h1, h2, h3, h4⟩ := h
    exact ⟨c, q, h1, fun m => h2 (s _ m), h3, fun m => h4 (s _ m)⟩
  | gfn x => exact h
theorem HeldO.fewer {a : Addr} {o : HO} (s : ∀ b, M' b → M b) (h : HeldO H M a o) : HeldO H M' a o := ⟨h.1, fun m => h.2 (s _ m)⟩
theorem Rp.fewer {v : V} {d : PyData} (s : ∀ b, M' b → M b) (h : Rp K H M v d) : Rp K H M' v d := Rp.map (fun _ _ => QL.fewer s) (fun _ _ => QT.fewer s) (fun _ _ => QD.fewer s) (fun _ _ _ _ _ => HeldO.fewer s) d v h
theorem RpAll.fewer {vs : List V} {ds : List PyData} (s : ∀ b, M' b → M b) (h : RpAll K H M vs ds) : RpAll K H M' vs ds := RpAll.map (fun _ _ => QL.fewer s) (fun _ _ => QT.fewer s) (fun _ _ => QD.fewer s) (fun _ _ _ _ _ => HeldO.fewer s) ds vs h
/-- a new object that is not barred -/
theorem Stp.laid {p : Addr} {o : HO} (h : H p = none) : Stp M H M (upd H p o) :=
  ⟨keepE fun b u e _ => by rw [upd_ne (ne_of_none e h)]; exact e, fun _ m => .inl m⟩
end
/-- where a def began: its heap, the objects that it may change for its caller, those that it may not hand on -/
abbrev Fps := List (List Addr)
theorem pfx_rfl {α : Type} {l : List α} : l <+: l := ⟨[], List.append_nil _⟩
structure Fc where
  H0 : Hp
  W : Fps
  Bar : Ms
  T : List (Addr × Str)
  exc : Option (Addr × Exn)
/-- tables and code objects stay -/
def TabKp (H H' : Hp) : Prop := (∀ b ps, H b = some (.tbl ps) → H' b = some (.tbl ps)) ∧ ∀ b f, H b = some (.ext f) → H' b = some (.ext f)
theorem TabKp.tabs {T : List (Addr × Str)} {H H' : Hp} (k : TabKp H H') (t : LamX.Tabs T H) : LamX.Tabs T H' := fun p hp => by
  obtain ⟨ps, h1, h2, h3⟩ := t p hp
  refine ⟨ps, k.1 _ _ h1, h2, fun pos cv hc => ?_⟩
  obtain ⟨c, e1, e2⟩ := h3 pos cv hc
  exact ⟨c, e1, k.2 _ _ e2⟩
theorem TabKp.new {H : Hp} {p : Addr} {o : HO} (e : H p = none) : TabKp H (upd H p o) := ⟨fun b ps q => by rw [upd_ne (ne_of_none q e)]; exact q, fun b f q => by rw [upd_ne (ne_of_none q e)]; exact q⟩
/-- neither a table nor a code object -/
def NTE (o : HO) : Prop := (∀ ps : Array Value, o ≠ .tbl ps) ∧ ∀ f, o ≠ .ext f
theorem TabKp.put {H : Hp} {p : Addr} {o u : HO} (e : H p = some u) (n : NTE u) : TabKp H (upd H p o) := ⟨fun b ps q => by
  have : b ≠ p := fun z => by rw [z, e] at q; exact n.1 ps (Option.some.inj q)
  rw [upd_ne this]; exact q, fun b f q => by
  have : b ≠ p := fun z => by rw [z, e] at q; exact n.2 f (Option.some.inj q)
  rw [upd_ne this]; exact q⟩
theorem nte_lst {xs : List V} : NTE (.lst xs) := ⟨fun _ z => (nomatch z), fun _ z => (nomatch z)⟩
theorem nte_dT {xs : List (List Key × V)} : NTE (.dT xs) := ⟨fun _ z => (nomatch z), fun _ z => (nomatch z)⟩
theorem nte_dK {xs : List (Key × V)} : NTE (.dK xs) := ⟨fun _ z => (nomatch z), fun _ z => (nomatch z)⟩
theorem nte_ins {c dx : Addr} {xs : List (Str × V)} : NTE (.ins c dx xs) := ⟨fun _ z => (nomatch z), fun _ z => (nomatch z)⟩
/-- the fields of an instance of the def's own -/
inductive Flds (K : PySem.W.Frag) (H : Hp) (M : Ms) : List (Str × V) → List (Str × Fv) → List Addr → Prop
  | nil : Flds K H M [] [] []
  | dat {f : Str} {v : V} {d : PyData} {vs : List (Str × V)} {fs : List (Str × Fv)} {bs : List Addr} : Rp K H M v d → Flds K H M vs fs bs → Flds K H M ((f, v) :: vs) ((f, .dat d) :: fs) bs
  | lst {f : Str} {b : Addr} {xs : List V} {ds : List PyData} {vs : List (Str × V)} {fs : List (Str × Fv)} {bs : List Addr} : H b = some (.lst xs) → RpAll K H M xs ds → Flds K H M vs fs bs → Flds K H M ((f, .ref b) :: vs) ((f, .lst ds) :: fs) (b :: bs)
  | dic {f : Str} {b : Addr} {kvs : List (Key × V)} {ps : List (Key × PyData)} {vs : List (Str × V)} {fs : List (Str × Fv)} {bs : List Addr} : H b = some (.dK kvs) → kvs.map (·.1) = ps.map (·.1) → RpAll K H M (kvs.map (·.2)) (ps.map (·.2)) → Flds K H M vs fs bs →
      Flds K H M ((f, .ref b) :: vs) ((f, .dic ps) :: fs) (b :: bs)
theorem Flds.stp {K : PySem.W.Frag} {H H1 : Hp} {M M' : Ms} {vs : List (Str × V)} {fs : List (Str × Fv)} {bs : List Addr} (s : Stp M H M' H1) (x : Flds K H M vs fs bs) : (∀ a ∈ bs, H1 a = H a) → Flds K H1 M' vs fs bs := by
  induction x with
  | nil => exact fun _ => .nil
  | dat r _ ih => exact fun k => .dat (r.stp s) (ih k)
  | lst e r _ ih => exact fun k => .lst ((k _ (by simp)).trans e) (r.stp s) (ih fun a m => k a (List.mem_cons_of_mem _ m))
  | dic e q r _ ih => exact fun k => .dic ((k _ (by simp)).trans e) q (r.stp s) (ih fun a m => k a (List.mem_cons_of_mem _ m))
theorem Flds.fewer {K : PySem.W.Frag} {H : Hp} {M M' : Ms} {vs : List (Str × V)} {fs : List (Str × Fv)} {bs : List Addr} (s : ∀ b, M' b → M b) (x : Flds K H M vs fs bs) : Flds K H M' vs fs bs := by
  induction x with
  | nil => exact .nil
  | dat r _ ih => exact .dat (r.fewer s) ih
  | lst e r _ ih => exact .lst e (r.fewer s) ih
  | dic e q r _ ih => exact .dic e q (r.fewer s) ih
theorem Flds.sub {K : PySem.W.Frag} {H : Hp} {M : Ms} {vs : List (Str × V)} {fs : List (Str × Fv)} {bs : List Addr} (x : Flds K H M vs fs bs) : ∀ b ∈ bs, (∃ xs, H b = some (.lst xs)) ∨ ∃ kvs, H b = some (.dK kvs) := by
  induction x with
  | nil => exact fun b m => nomatch m
  | dat r _ ih => exact ih
  | lst e r _ ih =>
    intro b m
    rcases List.mem_cons.mp m with z | z
    · exact .inl ⟨_, z ▸ e⟩
    · exact ih b z
  | dic e q r _ ih =>
    intro b m
    rcases List.mem_cons.mp m with z | z
    · exact .inr ⟨_, z ▸ e⟩
    · exact ih b z
/-- the fields that are objects of their own -/
def subs : List (Str × Fv) → List Fv
  | [] => []
  | (_, .dat _) :: fs => subs fs
  | (_, .lst ds) :: fs => .lst ds :: subs fs
  | (_, .dic kvs) :: fs => .dic kvs :: subs fs
theorem Flds.subL {K : PySem.W.Frag} {H : Hp} {M : Ms} {vs : List (Str × V)} {fs : List (Str × Fv)} {bs : List Addr} {ds : List PyData} (x : Flds K H M vs fs bs) : ∀ {i : Nat} {b : Addr}, bs[i]? = some b → (subs fs)[i]? = some (.lst ds) → ∃ xs, H b = some (.lst xs) ∧ RpAll K H M xs ds := by
  induction x with
  | nil => exact fun e _ => by simp at e
  | dat r _ ih => exact ih
  | lst e r _ ih =>
    intro i c e1 e2
    cases i with
    | zero =>
      simp [subs] at e1 e2
      subst e1; subst e2
      exact ⟨_, e, r⟩
    | succ i => exact ih (by simpa using e1) (by simpa [subs] using e2)
  | dic e q r _ ih =>
    intro i c e1 e2
    cases i with
    | zero => simp [subs] at e2
    | succ i => exact ih (by simpa using e1) (by simpa [subs] using e2)
def Mo (C : Fc) (ρ : Fps) : Ms := fun a => a ∈ ρ.flatten ∨ C.Bar a
/-- what stands at a footprint -/
def ObOk (K : PySem.W.Frag) (H : Hp) (M : Ms) (fp : List Addr) : Ob → Prop
  | .lst ds => ∃ a vs, fp = [a] ∧ H a = some (.lst vs) ∧ RpAll K H M vs ds
  | .dic kvs => ∃ a vs, fp = [a] ∧ H a = some (.dK vs) ∧ vs.map (·.1) = kvs.map (·.1) ∧ RpAll K H M (vs.map (·.2)) (kvs.map (·.2))
  | .lls dss => ∃ a bs, fp = a :: bs ∧ H a = some (.lst (bs.map V.ref)) ∧ bs.length = dss.length ∧ ∀ (i : Nat) (b : Addr) (ds : List PyData), bs[i]? = some b → dss[i]? = some ds → ∃ vs, H b = some (.lst vs) ∧ RpAll K H M vs ds
  | .dil dss ks => ∃ a bs, fp = a :: bs ∧ H a = some (.dK (ks.map fun r => (r.1, V.ref (bs.getD r.2 0)))) ∧ (∀ r ∈ ks, r.2 < bs.length) ∧ bs.length = dss.length ∧ ∀ (i : Nat) (b : Addr) (ds : List PyData), bs[i]? = some b → dss[i]? = some ds → ∃ vs, H b = some (.lst vs) ∧ RpAll K H M vs ds
  | .dtp ks => ∃ a, fp = [a] ∧ H a = some (.dT (ks.map fun k => (k.map Sum.inl, V.bl true)))
  | .dtq kvs => ∃ a vs, fp = [a] ∧ H a = some (.dT vs) ∧ vs.map (·.1) = kvs.map (fun p => p.1.map Sum.inl) ∧ RpAll K H M (vs.map (·.2)) (kvs.map (·.2))
  | .ins c fs => ∃ a Ca dx vs bs, fp = a :: bs ∧ InsC K c Ca ∧ H a = some (.ins Ca dx vs) ∧ Flds K H M vs fs bs
  | .gone => fp = []
/-- tuples and what the layer does not know -/
def HdO : HO → Prop
  | .tup _ => True
  | .ext _ => True
  | _ => False
structure Hd where
  o : HO
  hd : HdO o
theorem Hd.ntbl (x : Hd) {ps : Array Value} : x.o ≠ .tbl ps := fun z => by
  have := x.hd
  rw [z] at this
  exact this
theorem Hd.nlst (x : Hd) {ps : List V} : x.o ≠ .lst ps := fun z => by
  have := x.hd
  rw [z] at this
  exact this
structure SimH (K : PySem.W.Frag) (C : Fc) (ρ : Fps) (h : Hs) (H : Hp) : Prop where
  len : ρ.length = h.length
  nd : ρ.flatten.Nodup
  trk : ∀ a ∈ ρ.flatten, ∃ o, H a = some o
  obj : ∀ (n : Nat) (fp : List Addr) (o : Ob), ρ[n]? = some fp → h[n]? = some o → ObOk K H (Mo C ρ) fp o
  frK : ∀ b o, C.H0 b = some o → b ∉ C.W.flatten → ∃ o', H b = some o' ∧ Kp o o'
  own : ∀ a ∈ ρ.flatten, a ∈ C.W.flatten ∨ C.H0 a = none
  bar : ∀ b, C.Bar b → b ∉ ρ.flatten ∧ ∃ o, H b = some o
  wtr : ∀ a ∈ C.W.flatten, ∃ o, H a = some o
  pre : ∀ (n : Nat) (fp : List Addr), C.W[n]? = some fp → ρ[n]? = some fp
  tab : LamX.Tabs C.T H
  bnt : ∀ b (xs : Hd), C.Bar b → H b ≠ some xs.o
theorem SimH.fr {K : PySem.W.Frag} {C : Fc} {ρ : Fps} {h : Hs} {H : Hp} (S : SimH K C ρ h H) {b : Addr} {o : HO} (e : C.H0 b = some o) (n : b ∉ C.W.flatten) (t : NT o) : H b = some o := by
  obtain ⟨o', e', k⟩ := S.frK b o e n
  rw [e', k.nt t]
def SlV (K : PySem.W.Frag) (C : Fc) (ρ : Fps) (H : Hp) (v : V) : Sl → Prop
  | .val d => Rp K H (Mo C ρ) v d
  | .loc n => ∃ (fp : List Addr) (a : Addr), ρ[n]? = some fp ∧ fp.head? = some a ∧ v = .ref a
  | .inn n i => ∃ (fp : List Addr) (a : Addr), ρ[n]? = some fp ∧ fp[i + 1]? = some a ∧ v = .ref a
  | .exn x => ∃ a : Addr, C.exc = some (a, x) ∧ v = .ref a
  | .pr n d => ∃ (t a : Addr) (w : V) (fp : List Addr), v = .ref t ∧ H t = some (.tup [.ref a, w]) ∧ ¬ Mo C ρ t ∧ ρ[n]? = some fp ∧ fp.head? = some a ∧ Rp K H (Mo C ρ) w d
def SlVs (K : PySem.W.Frag) (C : Fc) (ρ : Fps) (H : Hp) : List V → List Sl → Prop := Paired (SlV K C ρ H)
structure EnvOk (K : PySem.W.Frag) (C : Fc) (ρ : Fps) (H : Hp) (env : En) (σ : St) : Prop where
  len : env.length = σ.length
  at_ : ∀ (i : Nat) (s : Sl), env[i]? = some (some s) → ∃ v, σ[i]? = some (some v) ∧ SlV K C ρ H v s
/-- a step within a def: roots stay -/
structure Ex (C : Fc) (ρ : Fps) (H : Hp) (ρ' : Fps) (H' : Hp) : Prop where
  stp : Stp (Mo C ρ) H (Mo C ρ') H'
  root : ∀ (n : Nat) (fp : List Addr), ρ[n]? = some fp → ∃ fp' : List Addr, ρ'[n]? = some fp' ∧ fp <+: fp'
section
variable {K : PySem.W.Frag} {C : Fc} {ρ ρ1 ρ2 : Fps} {H H1 H2 : Hp} {h h1 : Hs} {env : En} {σ : St} {v : V} {s : Sl}
theorem Ex.refl (C : Fc) (ρ : Fps) (H : Hp) : Ex C ρ H ρ H := ⟨Stp.refl _ _, fun _ fp e => ⟨fp, e, pfx_rfl⟩⟩
theorem Ex.trans (a : Ex C ρ H ρ1 H1) (b : Ex C ρ1 H1 ρ2 H2) : Ex C ρ H ρ2 H2 := ⟨a.stp.trans b.stp, fun n fp e => by
  obtain ⟨fp1, e1, q1⟩ := a.root n fp e
  obtain ⟨fp2, e2, q2⟩ := b.root n fp1 e1
  exact ⟨fp2, e2, q1.trans q2⟩⟩
theorem pfx_get {α : Type} {l m : List α} {i : Nat} {x : α} (p : l <+: m) (e : l[i]? = some x) : m[i]? = some x := by
  obtain ⟨r, rfl⟩ := p
  rw [List.getElem?_append_left (List.getElem?_eq_some_iff.mp e).1]
  exact e
theorem pfx_head {α : Type} {l m : List α} {x : α} (p : l <+: m) (e : l.head? = some x) : m.head? = some x := by
  rw [List.head?_eq_getElem?] at e ⊢
  exact pfx_get p e
theorem SlV.ex (x : Ex C ρ H ρ1 H1) (r : SlV K C ρ H v s) : SlV K C ρ1 H1 v s := by
  cases s with
  | val d => exact Rp.stp x.stp r
  | loc n =>
    obtain ⟨fp, a, e, q, rfl⟩ := r
    obtain ⟨fp', e', q'⟩ := x.root n fp e
    exact ⟨fp', a, e', pfx_head q' q, rfl⟩
  | inn n i =>
    obtain ⟨fp, a, e, q, rfl⟩ := r
    obtain ⟨fp', e', q'⟩ := x.root n fp e
    exact ⟨fp', a, e', pfx_get q' q, rfl⟩
  | exn x => exact r
  | pr n d =>
    obtain ⟨t, a, w, fp, rfl, e1, e2, e3, e4, e5⟩ := r
    obtain ⟨fp', e', q'⟩ := x.root n fp e3
    have z := Stp.held (o := .tup [.ref a, w]) x.stp (fun _ z => nomatch z) ⟨e1, e2⟩
    exact ⟨t, a, w, fp', rfl, z.1, z.2, e', pfx_head q' e4, e5.stp x.stp⟩
theorem SlV.prs {C2 : Fc} {n : Nat} {d : PyData} (s : Stp (Mo C ρ) H (Mo C2 ρ) H1) (r : SlV K C ρ H v (.pr n d)) : SlV K C2 ρ H1 v (.pr n d) := by
  obtain ⟨t, a, w, fp, rfl, e1, e2, e3, e4, e5⟩ := r
  have z := Stp.held (o := .tup [.ref a, w]) s (fun _ z => nomatch z) ⟨e1, e2⟩
  exact ⟨t, a, w, fp, rfl, z.1, z.2, e3, e4, e5.stp s⟩
theorem SlVs.ex (x : Ex C ρ H ρ1 H1) {vs : List V} {ss : List Sl} (r : SlVs K C ρ H vs ss) : SlVs K C ρ1 H1 vs ss := Paired.mapP r fun _ _ z => SlV.ex x z
theorem EnvOk.ex (x : Ex C ρ H ρ1 H1) (e : EnvOk K C ρ H env σ) : EnvOk K C ρ1 H1 env σ :=
  ⟨e.len, fun i s q => let ⟨v, a, b⟩ := e.at_ i s q; ⟨v, a, SlV.ex x b⟩⟩
theorem EnvOk.set (e : EnvOk K C ρ H env σ) (r : SlV K C ρ H v s) (i : Nat) : EnvOk K C ρ H (env.set i (some s)) (σ.set i (some v)) := by
  refine ⟨by rw [List.length_set, List.length_set]; exact e.len, fun j t q => ?_⟩
  by_cases hj : i = j
  · subst hj
    rw [List.getElem?_set] at q
    rw [if_pos rfl] at q
    split at q
    · rename_i hi
      have q' : s = t := by simpa using q
      subst q'
      refine ⟨v, ?_, r⟩
      rw [List.getElem?_set, if_pos rfl, if_pos (by rw [← e.len]; exact hi)]
    · cases q
  · rw [List.getElem?_set_ne hj] at q
    obtain ⟨u, a, b⟩ := e.at_ j t q
    exact ⟨u, by rw [List.getElem?_set_ne hj]; exact a, b⟩
theorem SimH.trkM (S : SimH K C ρ h H) {a : Addr} (m : Mo C ρ a) : ∃ o, H a = some o := by
  rcases m with m | m
  · exact S.trk a m
  · exact (S.bar a m).2
theorem SimH.fresh (S : SimH K C ρ h H) {p : Addr} (e : H p = none) : ¬ Mo C ρ p := fun m => by
  obtain ⟨o, q⟩ := S.trkM m
  rw [e] at q; cases q
theorem ObOk.stp {M M' : Ms} {fp : List Addr} {o : Ob} (s : Stp M H M' H1) (k : ∀ a ∈ fp, H1 a = H a) (x : ObOk K H M fp o) : ObOk K H1 M' fp o := by
  cases o with
  | lst ds =>
    obtain ⟨a, vs, rfl, e, r⟩ := x
    exact ⟨a, vs, rfl, (k a (by simp)).trans e, r.stp s⟩
  | dic kvs =>
    obtain ⟨a, vs, rfl, e, q, r⟩ := x
    exact ⟨a, vs, rfl, (k a (by simp)).trans e, q, r.stp s⟩
  | lls dss =>
    obtain ⟨a, bs, rfl, e, l, w⟩ := x
    refine ⟨a, bs, rfl, (k a (by simp)).trans e, l, fun i b ds e1 e2 => ?_⟩
    obtain ⟨vs, e3, r⟩ := w i b ds e1 e2
    exact ⟨vs, (k b (List.mem_cons_of_mem _ (List.mem_of_getElem? e1))).trans e3, r.stp s⟩
  | dil dss ks =>
    obtain ⟨a, bs, rfl, e, u, l, w⟩ := x
    refine ⟨a, bs, rfl, (k a (by simp)).trans e, u, l, fun i b ds e1 e2 => ?_⟩
    obtain ⟨vs, e3, r⟩ := w i b ds e1 e2
    exact ⟨vs, (k b (List.mem_cons_of_mem _ (List.mem_of_getElem? e1))).trans e3, r.stp s⟩
  | dtp ks =>
    obtain ⟨a, rfl, e⟩ := x
    exact ⟨a, rfl, (k a (by simp)).trans e⟩
  | dtq kvs =>
    obtain ⟨a, vs, rfl, e, q, r⟩ := x
    exact ⟨a, vs, rfl, (k a (by simp)).trans e, q, r.stp s⟩
  | ins c fs =>
    obtain ⟨a, Ca, dx, vs, bs, rfl, g, e, r⟩ := x
    exact ⟨a, Ca, dx, vs, bs, rfl, g, (k a (by simp)).trans e, r.stp s fun b m => k b (List.mem_cons_of_mem _ m)⟩
  | gone => exact x
theorem ObOk.nte {M : Ms} {fp : List Addr} {o : Ob} (x : ObOk K H M fp o) {a : Addr} (m : a ∈ fp) : ∃ u, H a = some u ∧ NTE u := by
  cases o with
  | lst ds =>
    obtain ⟨b, vs, rfl, e, r⟩ := x
    have : a = b := by simpa using m
    subst this
    exact ⟨_, e, nte_lst⟩
  | dic kvs =>
    obtain ⟨b, vs, rfl, e, q, r⟩ := x
    have : a = b := by simpa using m
    subst this
    exact ⟨_, e, nte_dK⟩
  | lls dss =>
    obtain ⟨b, bs, rfl, e, l, w⟩ := x
    rcases List.mem_cons.mp m with z | z
    · subst z
      exact ⟨_, e, nte_lst⟩
    · obtain ⟨i, hi, ei⟩ := List.getElem_of_mem z
      have hl : i < dss.length := by omega
      obtain ⟨vs, e3, _⟩ := w i a dss[i] (by rw [← ei]; exact List.getElem?_eq_getElem hi) (List.getElem?_eq_getElem hl)
      exact ⟨_, e3, nte_lst⟩
  | dil dss ks =>
    obtain ⟨b, bs, rfl, e, _, l, w⟩ := x
    rcases List.mem_cons.mp m with z | z
    · subst z
      exact ⟨_, e, nte_dK⟩
    · obtain ⟨i, hi, ei⟩ := List.getElem_of_mem z
      have hl : i < dss.length := by omega
      obtain ⟨vs, e3, _⟩ := w i a dss[i] (by rw [← ei]; exact List.getElem?_eq_getElem hi) (List.getElem?_eq_getElem hl)
      exact ⟨_, e3, nte_lst⟩
  | dtp ks =>
    obtain ⟨b, rfl, e⟩ := x
    have : a = b := by simpa using m
    subst this
    exact ⟨_, e, nte_dT⟩
  | dtq kvs =>
    obtain ⟨b, vs, rfl, e, _⟩ := x
    have : a = b := by simpa using m
    subst this
    exact ⟨_, e, nte_dT⟩
  | ins c fs =>
    obtain ⟨b, Ca, dx, vs, bs, rfl, g, e, r⟩ := x
    rcases List.mem_cons.mp m with z | z
    · subst z
      exact ⟨_, e, nte_ins⟩
    · rcases r.sub a z with ⟨_, q⟩ | ⟨_, q⟩
      · exact ⟨_, q, nte_lst⟩
      · exact ⟨_, q, nte_dK⟩
  | gone =>
    rw [show fp = [] from x] at m
    cases m
/-- a new object that nobody may change: data -/
theorem SimH.laid (S : SimH K C ρ h H) {p : Addr} {o : HO} (e : H p = none) : SimH K C ρ h (upd H p o) where
  len := S.len
  nd := S.nd
  trk := fun a m => by
    obtain ⟨u, q⟩ := S.trk a m
    exact ⟨u, by rw [upd_ne (ne_of_none q e)]; exact q⟩
  obj := fun n fp ob e1 e2 => ObOk.stp (Stp.laid e) (fun a m => by
    obtain ⟨u, q⟩ := S.trk a (List.mem_flatten.mpr ⟨fp, List.mem_of_getElem? e1, m⟩)
    exact upd_ne (ne_of_none q e)) (S.obj n fp ob e1 e2)
  frK := fun b u q n => by
    obtain ⟨u', q', k⟩ := S.frK b u q n
    exact ⟨u', by rw [upd_ne (ne_of_none q' e)]; exact q', k⟩
  own := S.own
  bar := fun b m => by
    obtain ⟨n, u, q⟩ := S.bar b m
    exact ⟨n, u, by rw [upd_ne (ne_of_none q e)]; exact q⟩
  wtr := fun a m => by
    obtain ⟨u, q⟩ := S.wtr a m
    exact ⟨u, by rw [upd_ne (ne_of_none q e)]; exact q⟩
  pre := S.pre
  tab := (TabKp.new e).tabs S.tab
  bnt := fun b xs m z => by
    obtain ⟨_, u, q⟩ := S.bar b m
    rw [upd_ne (ne_of_none q e)] at z
    exact S.bnt b xs m z
theorem Ex.laid (S : SimH K C ρ h H) {p : Addr} {o : HO} (e : H p = none) : Ex C ρ H ρ (upd H p o) := ⟨Stp.laid e, fun _ fp q => ⟨fp, q, pfx_rfl⟩⟩
/-- a tuple laid -/
theorem Rp.newTup (S : SimH K C ρ h H) {p : Addr} {vs : List V} {ds : List PyData} (e : H p = none) (r : RpAll K H (Mo C ρ) vs ds) : Rp K (upd H p (.tup vs)) (Mo C ρ) (.ref p) (.tuple ds) :=
  .tup (.inl ⟨.inl upd_same, S.fresh e⟩) (r.stp (Stp.laid e))
theorem Rp.newLst (S : SimH K C ρ h H) {p : Addr} {vs : List V} {ds : List PyData} (e : H p = none) (r : RpAll K H (Mo C ρ) vs ds) : Rp K (upd H p (.lst vs)) (Mo C ρ) (.ref p) (.list ds) :=
  .lst (.inl ⟨.inl upd_same, S.fresh e⟩) (r.stp (Stp.laid e))
end
theorem flatten_snoc (ρ : Fps) (fp : List Addr) : (ρ ++ [fp]).flatten = ρ.flatten ++ fp := by simp
section
variable {K : PySem.W.Frag} {C : Fc} {ρ : Fps} {H : Hp} {h : Hs}
theorem Mo.snoc {a b : Addr} (m : Mo C (ρ ++ [[a]]) b) : Mo C ρ b ∨ b = a := by
  rcases m with m | m
  · rw [flatten_snoc] at m
    rcases List.mem_append.mp m with m | m
    · exact .inl (.inl m)
    · exact .inr (by simpa using m)
  · exact .inl (.inr m)
theorem Stp.push {p : Addr} {o : HO} (e : H p = none) : Stp (Mo C ρ) H (Mo C (ρ ++ [[p]])) (upd H p o) where
  keepK := keepE fun b u q _ => by rw [upd_ne (ne_of_none q e)]; exact q
  new := fun b m => by
    rcases Mo.snoc m with m | m
    · exact .inl m
    · exact .inr (m ▸ e)
theorem get_snoc {α : Type} {l : List α} {x y : α} {n : Nat} (e : (l ++ [x])[n]? = some y) : l[n]? = some y ∨ (n = l.length ∧ y = x) := by
  by_cases hn : n < l.length
  · rw [List.getElem?_append_left hn] at e
    exact .inl e
  · rw [List.getElem?_append_right (by omega)] at e
    have : n - l.length = 0 := by
      cases q : n - l.length with
      | zero => rfl
      | succ m => rw [q] at e; simp at e
    rw [this] at e
    refine .inr ⟨by omega, ?_⟩
    have e' : x = y := by simpa using e
    exact e'.symm
/-- a new object of the def's own -/
theorem SimH.push (S : SimH K C ρ h H) {p : Addr} {o : HO} {ob : Ob} (e : H p = none) (x : ObOk K (upd H p o) (Mo C (ρ ++ [[p]])) [p] ob) : SimH K C (ρ ++ [[p]]) (h ++ [ob]) (upd H p o) where
  len := by rw [List.length_append, List.length_append, S.len]; rfl
  nd := by
    rw [flatten_snoc, List.nodup_append]
    refine ⟨S.nd, by simp, fun a m b m' z => ?_⟩
    have m'' : b = p := by simpa using m'
    subst m''
    subst z
    obtain ⟨u, q⟩ := S.trk a m
    rw [e] at q; cases q
  trk := fun a m => by
    rw [flatten_snoc] at m
    rcases List.mem_append.mp m with m | m
    · obtain ⟨u, q⟩ := S.trk a m
      exact ⟨u, by rw [upd_ne (ne_of_none q e)]; exact q⟩
    · have : a = p := by simpa using m
      subst this
      exact ⟨o, upd_same⟩
  obj := fun n fp q e1 e2 => by
    rcases get_snoc e1 with e1 | ⟨hn, e1⟩
    · rcases get_snoc e2 with e2 | ⟨hn2, e2⟩
      · refine ObOk.stp (Stp.push e) (fun a m => ?_) (S.obj n fp q e1 e2)
        obtain ⟨u, z⟩ := S.trk a (List.mem_flatten.mpr ⟨fp, List.mem_of_getElem? e1, m⟩)
        exact upd_ne (ne_of_none z e)
      · have := (List.getElem?_eq_some_iff.mp e1).1
        have := S.len
        omega
    · subst e1
      rcases get_snoc e2 with e2 | ⟨hn2, e2⟩
      · have := (List.getElem?_eq_some_iff.mp e2).1
        have := S.len
        omega
      · subst e2
        exact x
  frK := fun b u q n => by
    obtain ⟨u', q', k⟩ := S.frK b u q n
    exact ⟨u', by rw [upd_ne (ne_of_none q' e)]; exact q', k⟩
  own := fun a m => by
    rw [flatten_snoc] at m
    rcases List.mem_append.mp m with m | m
    · exact S.own a m
    · have : a = p := by simpa using m
      subst this
      by_cases hw : a ∈ C.W.flatten
      · exact .inl hw
      · refine .inr ?_
        cases q : C.H0 a with
        | none => rfl
        | some u =>
          obtain ⟨u', q', _⟩ := S.frK a u q hw
          rw [q'] at e; cases e
  bar := fun b m => by
    obtain ⟨n, u, q⟩ := S.bar b m
    refine ⟨fun z => ?_, u, by rw [upd_ne (ne_of_none q e)]; exact q⟩
    rw [flatten_snoc] at z
    rcases List.mem_append.mp z with z | z
    · exact n z
    · have : b = p := by simpa using z
      subst this
      rw [e] at q; cases q
  wtr := fun a m => by
    obtain ⟨u, q⟩ := S.wtr a m
    exact ⟨u, by rw [upd_ne (ne_of_none q e)]; exact q⟩
  pre := fun n fp q => by
    have e' := S.pre n fp q
    rw [List.getElem?_append_left (List.getElem?_eq_some_iff.mp e').1]; exact e'
  tab := (TabKp.new e).tabs S.tab
  bnt := fun b xs m z => by
    obtain ⟨_, u, q⟩ := S.bar b m
    rw [upd_ne (ne_of_none q e)] at z
    exact S.bnt b xs m z
theorem Ex.push {p : Addr} {o : HO} (e : H p = none) : Ex C ρ H (ρ ++ [[p]]) (upd H p o) := ⟨Stp.push e, fun n fp q => ⟨fp, by
  rw [List.getElem?_append_left (List.getElem?_eq_some_iff.mp q).1]; exact q, pfx_rfl⟩⟩
theorem SlV.pushed {p : Addr} (H : Hp) : SlV K C (ρ ++ [[p]]) H (.ref p) (.loc ρ.length) := ⟨[p], p, by simp, rfl, rfl⟩
theorem flat_at {n : Nat} {fp : List Addr} {a : Addr} (e : ρ[n]? = some fp) (m : a ∈ fp) : a ∈ ρ.flatten := List.mem_flatten.mpr ⟨fp, List.mem_of_getElem? e, m⟩
theorem nodup_apart : ∀ {ρ : Fps} {n m : Nat} {f g : List Addr} {a : Addr}, ρ.flatten.Nodup → ρ[n]? = some f → ρ[m]? = some g → a ∈ f → a ∈ g → n = m
  | [], _, _, _, _, _, _, e, _, _, _ => by simp at e
  | x :: r, n, m, f, g, a, nd, e1, e2, m1, m2 => by
    rw [List.flatten_cons, List.nodup_append] at nd
    obtain ⟨_, nd2, dj⟩ := nd
    cases n with
    | zero =>
      cases m with
      | zero => rfl
      | succ m =>
        have e1' : x = f := by simpa using e1
        subst e1'
        exact absurd rfl (dj a m1 a (flat_at (ρ := r) (n := m) (by simpa using e2) m2))
    | succ n =>
      cases m with
      | zero =>
        have e2' : x = g := by simpa using e2
        subst e2'
        exact absurd rfl (dj a m2 a (flat_at (ρ := r) (n := n) (by simpa using e1) m1))
      | succ m => exact congrArg (· + 1) (nodup_apart (ρ := r) nd2 (by simpa using e1) (by simpa using e2) m1 m2)
/-- an object of the def's own is changed -/
theorem SimH.write (S : SimH K C ρ h H) {n : Nat} {a : Addr} {o : HO} {ob : Ob} (e : ρ[n]? = some [a]) (x : ObOk K (upd H a o) (Mo C ρ) [a] ob) : SimH K C ρ (h.set n ob) (upd H a o) ∧ Ex C ρ H ρ (upd H a o) := by
  have ma : a ∈ ρ.flatten := flat_at e (by simp)
  have st : Stp (Mo C ρ) H (Mo C ρ) (upd H a o) := ⟨keepE fun b u q nm => by
    have : b ≠ a := fun z => nm (z ▸ .inl ma)
    rw [upd_ne this]; exact q, fun _ m => .inl m⟩
  have tk : TabKp H (upd H a o) := by
    have hl : n < h.length := by rw [← S.len]; exact (List.getElem?_eq_some_iff.mp e).1
    obtain ⟨u, eu, nu⟩ := (S.obj n [a] _ e (List.getElem?_eq_getElem hl)).nte (a := a) (by simp)
    exact TabKp.put eu nu
  refine ⟨⟨by rw [List.length_set]; exact S.len, S.nd, fun b m => ?_, fun k fp q e1 e2 => ?_, fun b u q nw => ?_, S.own, fun b m => ?_, fun b m => ?_, S.pre, tk.tabs S.tab, fun b xs m z => S.bnt b xs m (by
    have hb : b ≠ a := fun w => (S.bar b m).1 (by rw [w]; exact ma)
    rw [upd_ne hb] at z
    exact z)⟩, ⟨st, fun _ fp q => ⟨fp, q, pfx_rfl⟩⟩⟩
  · by_cases hb : b = a
    · subst hb; exact ⟨o, upd_same⟩
    · obtain ⟨u, q⟩ := S.trk b m
      exact ⟨u, by rw [upd_ne hb]; exact q⟩
  · by_cases hk : n = k
    · subst hk
      rw [e] at e1; cases e1
      rw [List.getElem?_set, if_pos rfl] at e2
      split at e2
      · cases e2; exact x
      · cases e2
    · rw [List.getElem?_set_ne hk] at e2
      refine ObOk.stp st (fun b m => upd_ne fun z => ?_) (S.obj k fp q e1 e2)
      subst z
      exact hk (nodup_apart S.nd e e1 (by simp) m)
  · obtain ⟨u', q', kk⟩ := S.frK b u q nw
    have : b ≠ a := fun z => by
      subst z
      rcases S.own b ma with w | w
      · exact nw w
      · rw [q] at w; cases w
    exact ⟨u', by rw [upd_ne this]; exact q', kk⟩
  · obtain ⟨n, u, q⟩ := S.bar b m
    have : b ≠ a := fun z => n (z ▸ ma)
    exact ⟨n, u, by rw [upd_ne this]; exact q⟩
  · by_cases hb : b = a
    · subst hb; exact ⟨o, upd_same⟩
    · obtain ⟨u, q⟩ := S.wtr b m
      exact ⟨u, by rw [upd_ne hb]; exact q⟩
/-- no object of a def's own is a tuple -/
theorem ObOk.ntu {M : Ms} {fp : List Addr} {o : Ob} (x : ObOk K H M fp o) {a : Addr} (m : a ∈ fp) (xs : List V) : H a ≠ some (.tup xs) := by
  cases o with
  | lst ds =>
    obtain ⟨b, vs, rfl, e, r⟩ := x
    have : a = b := by simpa using m
    subst this
    rw [e]; exact fun z => nomatch z
  | dic kvs =>
    obtain ⟨b, vs, rfl, e, r⟩ := x
    have : a = b := by simpa using m
    subst this
    rw [e]; exact fun z => nomatch z
  | dtp ks =>
    obtain ⟨b, rfl, e⟩ := x
    have : a = b := by simpa using m
    subst this
    rw [e]; exact fun z => nomatch z
  | dtq kvs =>
    obtain ⟨b, vs, rfl, e, _⟩ := x
    have : a = b := by simpa using m
    subst this
    rw [e]; exact fun z => nomatch z
  | ins c fs =>
    obtain ⟨b, Ca, dx, vs, bs, rfl, g, e, r⟩ := x
    rcases List.mem_cons.mp m with z | z
    · subst z
      rw [e]; exact fun z => nomatch z
    · rcases r.sub a z with ⟨_, q⟩ | ⟨_, q⟩ <;> (rw [q]; exact fun z => nomatch z)
  | lls dss =>
    obtain ⟨b, bs, rfl, e, l, w⟩ := x
    rcases List.mem_cons.mp m with z | z
    · subst z
      rw [e]; exact fun z => nomatch z
    · obtain ⟨i, hi, ei⟩ := List.getElem_of_mem z
      have hl : i < dss.length := by omega
      obtain ⟨vs, e3, _⟩ := w i a dss[i] (by rw [← ei]; exact List.getElem?_eq_getElem hi) (List.getElem?_eq_getElem hl)
      rw [e3]; exact fun z => nomatch z
  | dil dss ks =>
    obtain ⟨b, bs, rfl, e, _, l, w⟩ := x
    rcases List.mem_cons.mp m with z | z
    · subst z
      rw [e]; exact fun z => nomatch z
    · obtain ⟨i, hi, ei⟩ := List.getElem_of_mem z
      have hl : i < dss.length := by omega
      obtain ⟨vs, e3, _⟩ := w i a dss[i] (by rw [← ei]; exact List.getElem?_eq_getElem hi) (List.getElem?_eq_getElem hl)
      rw [e3]; exact fun z => nomatch z
  | gone =>
    have e : fp = [] := x
    subst e
    cases m
/-- a tuple is not barred -/
theorem SimH.free (S : SimH K C ρ h H) {a : Addr} {xs : List V} (e : H a = some (.tup xs)) : ¬ Mo C ρ a := fun m => by
  rcases m with m | m
  · obtain ⟨fp, m1, m2⟩ := List.mem_flatten.mp m
    obtain ⟨n, hn, en⟩ := List.getElem_of_mem m1
    have hl : n < h.length := by rw [← S.len]; exact hn
    exact ObOk.ntu (S.obj n fp _ (by rw [← en]; exact List.getElem?_eq_getElem hn) (List.getElem?_eq_getElem hl)) m2 xs e
  · exact S.bnt a ⟨.tup xs, trivial⟩ m e
theorem SimH.freeX (S : SimH K C ρ h H) {a : Addr} {xs : Hd} (e : H a = some xs.o) : ¬ Mo C ρ a := fun m => by
  rcases m with m | m
  · obtain ⟨fp, m1, m2⟩ := List.mem_flatten.mp m
    obtain ⟨n, hn, en⟩ := List.getElem_of_mem m1
    have hl : n < h.length := by rw [← S.len]; exact hn
    have z := S.obj n fp _ (by rw [← en]; exact List.getElem?_eq_getElem hn) (List.getElem?_eq_getElem hl)
    obtain ⟨o, hd⟩ := xs
    cases o with
    | tup ys => exact ObOk.ntu z m2 ys e
    | ext f =>
      obtain ⟨u, eu, nu⟩ := z.nte m2
      have e' : H a = some (.ext f) := e
      rw [e'] at eu
      cases eu
      exact nu.2 _ rfl
    | _ => exact hd
  · exact S.bnt a xs m e
theorem SimH.lst (S : SimH K C ρ h H) {n : Nat} {fp : List Addr} {a : Addr} {ds : List PyData} (e1 : ρ[n]? = some fp) (e2 : fp.head? = some a) (e3 : h[n]? = some (.lst ds)) : ρ[n]? = some [a] ∧ ∃ vs, H a = some (.lst vs) ∧ RpAll K H (Mo C ρ) vs ds := by
  obtain ⟨b, vs, rfl, q, r⟩ := S.obj n fp _ e1 e3
  have : b = a := by simpa using e2
  subst this
  exact ⟨e1, vs, q, r⟩
/-- one more that is barred -/
def Fc.plus (C : Fc) (D : Addr) : Fc := { C with Bar := fun a => C.Bar a ∨ a = D }
/-- a part of the def's run as a frame of its own: it may change the def's own objects -/
def Fc.sub (C : Fc) (ρ : Fps) (H : Hp) : Fc := { H0 := H, W := ρ, Bar := C.Bar, T := C.T, exc := C.exc }
theorem SimH.sub (S : SimH K C ρ h H) : SimH K (C.sub ρ H) ρ h H where
  len := S.len
  nd := S.nd
  trk := S.trk
  obj := S.obj
  frK := fun _ o e _ => ⟨o, e, .inl rfl⟩
  own := fun _ m => .inl m
  bar := S.bar
  wtr := S.trk
  pre := fun n fp e => e
  tab := S.tab
  bnt := S.bnt
theorem SimH.back (S : SimH K C ρ h H) {ρ1 : Fps} {h1 : Hs} {H1 : Hp} (S1 : SimH K (C.sub ρ H) ρ1 h1 H1) (w : ∀ a ∈ C.W.flatten, ∃ o, H1 a = some o) : SimH K C ρ1 h1 H1 where
  len := S1.len
  nd := S1.nd
  trk := S1.trk
  obj := S1.obj
  frK := fun b o e n => by
    obtain ⟨o1, e1, k1⟩ := S.frK b o e n
    obtain ⟨o2, e2, k2⟩ := S1.frK b o1 e1 fun m => by
      rcases S.own b m with q | q
      · exact n q
      · rw [e] at q; cases q
    exact ⟨o2, e2, k1.trans k2⟩
  own := fun a m => by
    rcases S1.own a m with q | q
    · exact S.own a q
    · by_cases hw : a ∈ C.W.flatten
      · exact .inl hw
      · refine .inr ?_
        cases e : C.H0 a with
        | none => rfl
        | some o =>
          have q' : H a = none := q
          obtain ⟨o1, e1, _⟩ := S.frK a o e hw
          rw [e1] at q'; cases q'
  bar := S1.bar
  wtr := w
  pre := fun n fp e => S1.pre n fp (S.pre n fp e)
  tab := S1.tab
  bnt := S1.bnt
theorem SimH.wsub (S : SimH K C ρ h H) {ρ1 : Fps} {h1 : Hs} {H1 : Hp} (S1 : SimH K (C.sub ρ H) ρ1 h1 H1) : ∀ a ∈ C.W.flatten, ∃ o, H1 a = some o := fun a m => by
  by_cases hm : a ∈ ρ.flatten
  · exact S1.wtr a hm
  · obtain ⟨o, e⟩ := S.wtr a m
    obtain ⟨o1, e1, _⟩ := S1.frK a o e hm
    exact ⟨o1, e1⟩
theorem SimH.backW (S : SimH K C ρ h H) {ρ1 : Fps} {h1 : Hs} {H1 : Hp} (S1 : SimH K (C.sub ρ H) ρ1 h1 H1) : SimH K C ρ1 h1 H1 := S.back S1 (S.wsub S1)
/-- a new object, barred for a while -/
theorem Stp.plus {D : Addr} {o : HO} (e : H D = none) : Stp (Mo C ρ) H (Mo (C.plus D) ρ) (upd H D o) where
  keepK := keepE fun b u q _ => by rw [upd_ne (ne_of_none q e)]; exact q
  new := fun b m => by
    rcases m with m | m | m
    · exact .inl (.inl m)
    · exact .inl (.inr m)
    · exact .inr (m ▸ e)
theorem SimH.plus (S : SimH K C ρ h H) {D : Addr} {o : HO} (e : H D = none) (ho : ∀ xs : Hd, o ≠ xs.o := by rintro ⟨_, hd⟩ z; subst z; exact hd) : SimH K (C.plus D) ρ h (upd H D o) where
  len := S.len
  nd := S.nd
  trk := (S.laid (o := o) e).trk
  obj := fun n fp ob e1 e2 => ObOk.stp (Stp.plus e) (fun a m => by
    obtain ⟨u, q⟩ := S.trk a (flat_at e1 m)
    exact upd_ne (ne_of_none q e)) (S.obj n fp ob e1 e2)
  frK := (S.laid (o := o) e).frK
  own := S.own
  bar := fun b m => by
    rcases m with m | m
    · exact (S.laid (o := o) e).bar b m
    · subst m
      refine ⟨fun z => ?_, o, upd_same⟩
      obtain ⟨u, q⟩ := S.trk b z
      rw [e] at q; cases q
  wtr := (S.laid (o := o) e).wtr
  pre := S.pre
  tab := (TabKp.new e).tabs S.tab
  bnt := fun b xs m z => by
    rcases m with m | m
    · exact (S.laid (o := o) e).bnt b xs m z
    · subst m
      rw [upd_same] at z
      exact ho xs (Option.some.inj z)
/-- a barred object is changed: no data has it -/
theorem Stp.poke {D : Addr} {o : HO} (b : C.Bar D) : Stp (Mo C ρ) H (Mo C ρ) (upd H D o) where
  keepK := keepE fun c u q n => by
    have : c ≠ D := fun z => n (z ▸ .inr b)
    rw [upd_ne this]; exact q
  new := fun _ m => .inl m
theorem SimH.poke (S : SimH K C ρ h H) {D : Addr} {o u0 : HO} (b : C.Bar D) (n0 : C.H0 D = none) (e0 : H D = some u0) (nt : NTE u0) (ho : ∀ xs : Hd, o ≠ xs.o := by rintro ⟨_, hd⟩ z; subst z; exact hd) : SimH K C ρ h (upd H D o) where
  len := S.len
  nd := S.nd
  trk := fun a m => by
    have : a ≠ D := fun z => (S.bar D b).1 (z ▸ m)
    rw [upd_ne this]; exact S.trk a m
  obj := fun n fp ob e1 e2 => ObOk.stp (Stp.poke b) (fun a m => by
    have : a ≠ D := fun z => (S.bar D b).1 (z ▸ flat_at e1 m)
    exact upd_ne this) (S.obj n fp ob e1 e2)
  frK := fun c u q nw => by
    have : c ≠ D := fun z => by rw [z, n0] at q; cases q
    rw [upd_ne this]; exact S.frK c u q nw
  own := S.own
  bar := fun c m => by
    refine ⟨(S.bar c m).1, ?_⟩
    by_cases hc : c = D
    · subst hc; exact ⟨o, upd_same⟩
    · rw [upd_ne hc]; exact (S.bar c m).2
  wtr := fun a m => by
    by_cases hc : a = D
    · subst hc; exact ⟨o, upd_same⟩
    · rw [upd_ne hc]; exact S.wtr a m
  pre := S.pre
  tab := (TabKp.put e0 nt).tabs S.tab
  bnt := fun c xs m z => by
    by_cases hc : c = D
    · subst hc
      rw [upd_same] at z
      exact ho xs (Option.some.inj z)
    · rw [upd_ne hc] at z
      exact S.bnt c xs m z
theorem Mo.unplus {D b : Addr} (m : Mo C ρ b) : Mo (C.plus D) ρ b := by
  rcases m with m | m
  · exact .inl m
  · exact .inr (.inl m)
theorem ObOk.fewer {M M' : Ms} {fp : List Addr} {o : Ob} (s : ∀ b, M' b → M b) (x : ObOk K H M fp o) : ObOk K H M' fp o := by
  cases o with
  | lst ds =>
    obtain ⟨a, vs, rfl, e, r⟩ := x
    exact ⟨a, vs, rfl, e, r.fewer s⟩
  | dic kvs =>
    obtain ⟨a, vs, rfl, e, q, r⟩ := x
    exact ⟨a, vs, rfl, e, q, r.fewer s⟩
  | lls dss =>
    obtain ⟨a, bs, rfl, e, l, w⟩ := x
    refine ⟨a, bs, rfl, e, l, fun i b ds e1 e2 => ?_⟩
    obtain ⟨vs, e3, r⟩ := w i b ds e1 e2
    exact ⟨vs, e3, r.fewer s⟩
  | dil dss ks =>
    obtain ⟨a, bs, rfl, e, u, l, w⟩ := x
    refine ⟨a, bs, rfl, e, u, l, fun i b ds e1 e2 => ?_⟩
    obtain ⟨vs, e3, r⟩ := w i b ds e1 e2
    exact ⟨vs, e3, r.fewer s⟩
  | dtp ks => exact x
  | dtq kvs =>
    obtain ⟨a, vs, rfl, e, q, r⟩ := x
    exact ⟨a, vs, rfl, e, q, r.fewer s⟩
  | ins c fs =>
    obtain ⟨a, Ca, dx, vs, bs, rfl, g, e, r⟩ := x
    exact ⟨a, Ca, dx, vs, bs, rfl, g, e, r.fewer s⟩
  | gone => exact x
theorem SimH.unplus {D : Addr} (S : SimH K (C.plus D) ρ h H) : SimH K C ρ h H where
  len := S.len
  nd := S.nd
  trk := S.trk
  obj := fun n fp ob e1 e2 => ObOk.fewer (fun _ => Mo.unplus) (S.obj n fp ob e1 e2)
  frK := S.frK
  own := S.own
  bar := fun b m => S.bar b (.inl m)
  wtr := S.wtr
  pre := S.pre
  tab := S.tab
  bnt := fun b xs m => S.bnt b xs (.inl m)
/-- the barred object becomes one of the def's own -/
theorem Mo.adopt {D b : Addr} : Mo C (ρ ++ [[D]]) b ↔ Mo (C.plus D) ρ b := by
  unfold Mo
  rw [flatten_snoc]
  constructor
  · rintro (m | m)
    · rcases List.mem_append.mp m with m | m
      · exact .inl m
      · exact .inr (.inr (by simpa using m))
    · exact .inr (.inl m)
  · rintro (m | m | m)
    · exact .inl (List.mem_append_left _ m)
    · exact .inr m
    · exact .inl (List.mem_append_right _ (by simp [m]))
theorem SimH.adopt {D : Addr} (S : SimH K (C.plus D) ρ h H) {ob : Ob} (n0 : C.H0 D = none) (nb : ¬ C.Bar D) (x : ObOk K H (Mo (C.plus D) ρ) [D] ob) : SimH K C (ρ ++ [[D]]) (h ++ [ob]) H where
  len := by rw [List.length_append, List.length_append, S.len]; rfl
  nd := by
    rw [flatten_snoc, List.nodup_append]
    refine ⟨S.nd, by simp, fun a m b m' z => ?_⟩
    have m'' : b = D := by simpa using m'
    subst m''
    subst z
    exact (S.bar a (.inr rfl)).1 m
  trk := fun a m => by
    rw [flatten_snoc] at m
    rcases List.mem_append.mp m with m | m
    · exact S.trk a m
    · have : a = D := by simpa using m
      subst this
      exact (S.bar a (.inr rfl)).2
  obj := fun n fp q e1 e2 => by
    rcases get_snoc e1 with e1 | ⟨hn, e1⟩
    · rcases get_snoc e2 with e2 | ⟨hn2, e2⟩
      · exact ObOk.fewer (fun _ => Mo.adopt.mp) (S.obj n fp q e1 e2)
      · have := (List.getElem?_eq_some_iff.mp e1).1
        have := S.len
        omega
    · subst e1
      rcases get_snoc e2 with e2 | ⟨hn2, e2⟩
      · have := (List.getElem?_eq_some_iff.mp e2).1
        have := S.len
        omega
      · subst e2
        exact ObOk.fewer (fun _ => Mo.adopt.mp) x
  frK := S.frK
  own := fun a m => by
    rw [flatten_snoc] at m
    rcases List.mem_append.mp m with m | m
    · exact S.own a m
    · have : a = D := by simpa using m
      subst this
      exact .inr n0
  bar := fun b m => by
    refine ⟨fun z => ?_, (S.bar b (.inl m)).2⟩
    rw [flatten_snoc] at z
    rcases List.mem_append.mp z with z | z
    · exact (S.bar b (.inl m)).1 z
    · have : b = D := by simpa using z
      subst this
      exact nb m
  wtr := S.wtr
  pre := fun n fp q => by
    have e' := S.pre n fp q
    rw [List.getElem?_append_left (List.getElem?_eq_some_iff.mp e').1]; exact e'
  tab := S.tab
  bnt := fun b xs m => S.bnt b xs (.inl m)
theorem SimH.wlen (S : SimH K C ρ h H) : C.W.length ≤ h.length := by
  cases q : C.W.length with
  | zero => exact Nat.zero_le _
  | succ m =>
    have hm : m < C.W.length := by omega
    have e' := S.pre m _ (List.getElem?_eq_getElem hm)
    have := (List.getElem?_eq_some_iff.mp e').1
    have := S.len
    omega
/-- only the first n objects are kept -/
theorem flatten_take_mem {n : Nat} {a : Addr} (m : a ∈ (ρ.take n).flatten) : a ∈ ρ.flatten := by
  obtain ⟨fp, h1, h2⟩ := List.mem_flatten.mp m
  exact List.mem_flatten.mpr ⟨fp, List.mem_of_mem_take h1, h2⟩
theorem Mo.take {n : Nat} {b : Addr} (m : Mo C (ρ.take n) b) : Mo C ρ b := by
  rcases m with m | m
  · exact .inl (flatten_take_mem m)
  · exact .inr m
theorem get_take {α : Type} {l : List α} {n i : Nat} {x : α} (e : (l.take n)[i]? = some x) : l[i]? = some x := by
  rw [List.getElem?_take] at e
  split at e
  · exact e
  · cases e
theorem SimH.take (S : SimH K C ρ h H) (n : Nat) (hn : C.W.length ≤ n) : SimH K C (ρ.take n) (h.take n) H where
  len := by rw [List.length_take, List.length_take, S.len]
  nd := by
    have e : ρ.flatten = (ρ.take n).flatten ++ (ρ.drop n).flatten := by rw [← List.flatten_append, List.take_append_drop]
    have q := S.nd
    rw [e] at q
    exact (List.nodup_append.mp q).1
  trk := fun a m => S.trk a (flatten_take_mem m)
  obj := fun k fp o e1 e2 => ObOk.fewer (fun _ => Mo.take) (S.obj k fp o (get_take e1) (get_take e2))
  frK := S.frK
  own := fun a m => S.own a (flatten_take_mem m)
  bar := fun b m => ⟨fun z => (S.bar b m).1 (flatten_take_mem z), (S.bar b m).2⟩
  wtr := S.wtr
  pre := fun k fp q => by
    have e' := S.pre k fp q
    have := (List.getElem?_eq_some_iff.mp q).1
    rw [List.getElem?_take, if_pos (by omega)]; exact e'
  tab := S.tab
  bnt := S.bnt
theorem Stp.take (n : Nat) : Stp (Mo C ρ) H (Mo C (ρ.take n)) H := ⟨keepE fun _ _ e _ => e, fun _ m => .inl (Mo.take m)⟩
end
end FL
namespace FL
open PySem PySem.Spec PyProof.Rows L2
/-- how an exception lies -/
def XnOk (K : PySem.W.Frag) (mg : Str → Option Value) (H : Hp) (M : Ms) (x : Exn) (cls : Value) (d : Option Addr) : Prop :=
  mg x.cls = some cls ∧ ((x.fs = [] ∧ d = none) ∨ x.fs ≠ [] ∧ ∃ da vs, d = some da ∧ H da = some (.xd vs) ∧ vs.map (·.1) = x.fs.map (·.1) ∧ RpAll K H M (vs.map (·.2)) (x.fs.map (·.2)))
/-- what is to be shown of an outcome -/
def Po {α β : Type} (K : PySem.W.Frag) (mg : Str → Option Value) (C : Fc) (Wx : WX) (σ : St) (ρ : Fps) (H : Hp) (rel : Fps → Hp → β → α → Prop) (r : Rz α) (Q : β → Hp → Prop) : Prop := match r with
  | .ok a h' => ∀ (ρ' : Fps) (b : β) (H' : Hp), Ex C ρ H ρ' H' → SimH K C ρ' h' H' → rel ρ' H' b a → Q b H'
  | .err x h' => ∀ (ρ' : Fps) (H' : Hp) (cls : Value) (d : Option Addr), Ex C ρ H ρ' H' → SimH K C ρ' h' H' → XnOk K mg H' (Mo C ρ') x cls d → Wx cls d σ H'
  | .bad => False
def rd {α β : Type} (K : PySem.W.Frag) (mg : Str → Option Value) (C : Fc) (Wx : WX) (rel : Fps → Hp → β → α → Prop) (f : En → Hs → Rz α) : St → Hp → (β → Hp → Prop) → Prop := fun σ H Q =>
  ∃ (ρ : Fps) (env : En) (h : Hs), SimH K C ρ h H ∧ EnvOk K C ρ H env σ ∧ Po K mg C Wx σ ρ H rel (f env h) Q
abbrev relE (K : PySem.W.Frag) (C : Fc) : Fps → Hp → V → Sl → Prop := fun ρ H v s => SlV K C ρ H v s
abbrev relA (K : PySem.W.Frag) (C : Fc) : Fps → Hp → List V → List Sl → Prop := fun ρ H v s => SlVs K C ρ H v s
abbrev relT : Fps → Hp → Bool → Bool → Prop := fun _ _ b c => b = c
abbrev relO : Fps → Hp → Option Int → Option Int → Prop := fun _ _ b c => b = c
abbrev FE (X : Cx) (C : Fc) (Wx : WX) (e : Expr) (f : Ev) : Prop := PE X e (rd X.K X.mg C Wx (relE X.K C) f)
abbrev FT (X : Cx) (C : Fc) (Wx : WX) (e : Expr) (f : Tv) : Prop := PT X e (rd X.K X.mg C Wx relT f)
abbrev FW (X : Cx) (C : Fc) (Wx : WX) (e : Expr) (f : Tv) : Prop := PW X e (rd X.K X.mg C Wx relT f)
abbrev FA (X : Cx) (C : Fc) (Wx : WX) (es : List Expr) (f : Av) : Prop := PA X es (rd X.K X.mg C Wx (relA X.K C) f)
abbrev FO (X : Cx) (C : Fc) (Wx : WX) (e : Option Expr) (f : En → Hs → Rz (Option Int)) : Prop := PO X e (rd X.K X.mg C Wx relO f)
theorem PE.imp {X : Cx} {e : Expr} {t t' : TE} (h : PE X e t) (i : ∀ σ H Q, t' σ H Q → t σ H Q) : PE X e t' := ⟨fun pins s σ H Q I q => h.run pins s σ H Q I (i σ H Q q)⟩
theorem PT.imp {X : Cx} {e : Expr} {t t' : TT} (h : PT X e t) (i : ∀ σ H Q, t' σ H Q → t σ H Q) : PT X e t' := ⟨fun pins s σ H Q I q => h.run pins s σ H Q I (i σ H Q q)⟩
theorem PW.imp {X : Cx} {e : Expr} {t t' : TT} (h : PW X e t) (i : ∀ σ H Q, t' σ H Q → t σ H Q) : PW X e t' := ⟨fun wh pins s σ H Q I q => h.run wh pins s σ H Q I (i σ H Q q)⟩
theorem PA.imp {X : Cx} {e : List Expr} {t t' : TA} (h : PA X e t) (i : ∀ σ H Q, t' σ H Q → t σ H Q) : PA X e t' := ⟨fun pos pins s σ H Q I q => h.run pos pins s σ H Q I (i σ H Q q)⟩
theorem PO.imp {X : Cx} {e : Option Expr} {t t' : TO} (h : PO X e t) (i : ∀ σ H Q, t' σ H Q → t σ H Q) : PO X e t' := ⟨fun pins s σ H Q I q => h.run pins s σ H Q I (i σ H Q q)⟩
theorem PS.imp {X : Cx} {e : Stmt} {t t' : TS} (h : PS X e t) (i : ∀ D σ H, t' D σ H → t D σ H) : PS X e t' := ⟨fun pins s σ H D I q => h.run pins s σ H D I (i D σ H q)⟩
theorem PSs.imp {X : Cx} {e : List Stmt} {t t' : TS} (h : PSs X e t) (i : ∀ D σ H, t' D σ H → t D σ H) : PSs X e t' := ⟨fun pins s σ H D I q => h.run pins s σ H D I (i D σ H q)⟩
section
variable {K : PySem.W.Frag} {mg : Str → Option Value} {C : Fc} {Wx : WX} {σ : St} {H : Hp}
/-- an outcome behind a step -/
theorem Po.ex {α β : Type} {ρ ρ1 : Fps} {H1 : Hp} {rel : Fps → Hp → β → α → Prop} {r : Rz α} {Q : β → Hp → Prop} (x : Ex C ρ H ρ1 H1) (p : Po K mg C Wx σ ρ H rel r Q) : Po K mg C Wx σ ρ1 H1 rel r Q := by
  cases r with
  | ok a h' => exact fun ρ' b H' x' S r => p ρ' b H' (x.trans x') S r
  | err y h' => exact fun ρ' H' cls d s S q => p ρ' H' cls d (x.trans s) S q
  | bad => exact p
/-- THE BIND: a first part, then the rest -/
theorem rd.bind {α β γ δ : Type} {r1 : Fps → Hp → β → α → Prop} {r2 : Fps → Hp → δ → γ → Prop} {f : En → Hs → Rz α} {g : α → En → Hs → Rz γ} {Q : δ → Hp → Prop}
    (p : rd K mg C Wx r2 (fun env h => (f env h).bind fun a h => g a env h) σ H Q) {R : β → Hp → Prop}
    (k : ∀ ρ1 env h1 a b H1, SimH K C ρ1 h1 H1 → EnvOk K C ρ1 H1 env σ → r1 ρ1 H1 b a → Po K mg C Wx σ ρ1 H1 r2 (g a env h1) Q → R b H1) : rd K mg C Wx r1 f σ H R := by
  obtain ⟨ρ, env, h, S, E, P⟩ := p
  refine ⟨ρ, env, h, S, E, ?_⟩
  cases e : f env h with
  | ok a h1 =>
    intro ρ1 b H1 x S1 q
    have P' : Po K mg C Wx σ ρ H r2 ((f env h).bind fun a h => g a env h) Q := P
    rw [e] at P'
    exact k ρ1 env h1 a b H1 S1 (E.ex x) q (P'.ex x)
  | err y h1 =>
    have P' : Po K mg C Wx σ ρ H r2 ((f env h).bind fun a h => g a env h) Q := P
    rw [e] at P'
    exact P'
  | bad =>
    have P' : Po K mg C Wx σ ρ H r2 ((f env h).bind fun a h => g a env h) Q := P
    rw [e] at P'
    exact P'
theorem Po.bind {α β γ δ : Type} {r1 : Fps → Hp → β → α → Prop} {r2 : Fps → Hp → δ → γ → Prop} {ρ : Fps} {r : Rz α} {g : α → Hs → Rz γ} {Q : δ → Hp → Prop} {R : β → Hp → Prop} (P : Po K mg C Wx σ ρ H r2 (r.bind g) Q)
    (k : ∀ ρ1 h1 a b H1, r = .ok a h1 → Ex C ρ H ρ1 H1 → SimH K C ρ1 h1 H1 → r1 ρ1 H1 b a → Po K mg C Wx σ ρ1 H1 r2 (g a h1) Q → R b H1) : Po K mg C Wx σ ρ H r1 r R := by
  cases r with
  | ok a h1 => exact fun ρ1 b H1 x S1 q => k ρ1 h1 a b H1 rfl x S1 q (Po.ex (r := g a h1) x P)
  | err y h1 => exact P
  | bad => exact P
theorem rd.of {α β : Type} {rel : Fps → Hp → β → α → Prop} {f : En → Hs → Rz α} {Q : β → Hp → Prop} {ρ : Fps} {env : En} {h : Hs} (S : SimH K C ρ h H) (E : EnvOk K C ρ H env σ) (p : Po K mg C Wx σ ρ H rel (f env h) Q) : rd K mg C Wx rel f σ H Q := ⟨ρ, env, h, S, E, p⟩
end
def eVar (i : Nat) : Ev := fun env h => match env[i]? with
  | some (some s) => .ok s h
  | _ => .bad
def eK (d : PyData) : Ev := fun _ h => .ok (.val d) h
section
variable {X : Cx} {C : Fc} {Wx : WX}
theorem fe_var (i : Nat) {x : Str} {pos : Pos} (hN : X.N[i]? = some x := by rfl) (hv : Vis X.env.scope x := by first | exact Or.inl rfl | exact Or.inr (Or.inl rfl) | exact Or.inr (Or.inr rfl)) (hd : (x == ("__debug__" : Str)) = false := by decide)
    (hcd : (x == ("__classdict__" : Str)) = false := by decide) : FE X C Wx (.Name x pos) (eVar i) := by
  refine PE.imp (pe_var hN hv hd hcd) fun σ H Q ⟨ρ, env, h, S, E, P⟩ => ?_
  have P' : Po X.K X.mg C Wx σ ρ H (relE X.K C) (eVar i env h) Q := P
  unfold eVar at P'
  split at P'
  · rename_i s e
    obtain ⟨v, e1, r⟩ := E.at_ i s e
    exact ⟨v, e1, P' ρ v H (Ex.refl _ _ _) S r⟩
  · exact P'.elim
theorem fe_const {e : Expr} {v : V} {d : PyData} (h : PE X e (tC v)) (r : ∀ H M, Rp X.K H M v d) : FE X C Wx e (eK d) :=
  PE.imp h fun σ H Q ⟨ρ, env, hh, S, E, P⟩ => P ρ v H (Ex.refl _ _ _) S (r _ _)
theorem fe_int {i j pos} : FE X C Wx (.Constant (.int i) j pos) (eK (.int i)) := fe_const pe_int fun _ _ => .int i
theorem fe_bl {b j pos} : FE X C Wx (.Constant (.bool b) j pos) (eK (.bool b)) := fe_const pe_bl fun _ _ => .bl b
theorem fe_non {j pos} : FE X C Wx (.Constant .none j pos) (eK .none) := fe_const pe_non fun _ _ => .non
theorem fe_str {x j pos} : FE X C Wx (.Constant (.str x) j pos) (eK (.str x)) := fe_const pe_str fun _ _ => .str x
/-- a module's constant that is an int -/
theorem fe_globI {x : Str} {i : Int} {pos : Pos} (hg : Gl X x) (hm : ∃ t, X.mg x = some (.int i t)) (hd : (x == ("__debug__" : Str)) = false := by decide) : FE X C Wx (.Name x pos) (eK (.int i)) := by
  obtain ⟨t, hm⟩ := hm
  exact fe_const (v := .int i) (pe_glob hg hm ⟨t, rfl⟩ hd) fun _ _ => .int i
end
abbrev G2 := Sl → Sl → Hs → Option PyData
abbrev GL := List Sl → Hs → Option PyData
def Rz.give (o : Option PyData) (h : Hs) : Rz Sl := match o with
  | some d => .ok (.val d) h
  | none => .bad
def cBin (g : G2) (f1 f2 : Ev) : Ev := fun env h => (f1 env h).bind fun s h => (f2 env h).bind fun t h => .give (g s t h) h
def cUn (g : Sl → Hs → Option PyData) (f : Ev) : Ev := fun env h => (f env h).bind fun s h => .give (g s h) h
def cCB (g : GL) (f : Av) : Ev := fun env h => (f env h).bind fun ss h => .give (g ss h) h
def rd2 (K : PySem.W.Frag) (C : Fc) (g : G2) : R2 := fun x y H Q => ∃ ρ h s t d, SimH K C ρ h H ∧ SlV K C ρ H x s ∧ SlV K C ρ H y t ∧ g s t h = some d ∧
  ∀ v H', Ex C ρ H ρ H' → SimH K C ρ h H' → Rp K H' (Mo C ρ) v d → Q v H'
def rdC (K : PySem.W.Frag) (C : Fc) (g : GL) : List V → Hp → VK → Prop := fun xs H Q => ∃ ρ h ss d, SimH K C ρ h H ∧ SlVs K C ρ H xs ss ∧ g ss h = some d ∧
  ∀ v H', Ex C ρ H ρ H' → SimH K C ρ h H' → Rp K H' (Mo C ρ) v d → Q v H'
def rd1 (K : PySem.W.Frag) (C : Fc) (g : Sl → Hs → Option PyData) : V → Hp → VK → Prop := fun x H Q => ∃ ρ h s d, SimH K C ρ h H ∧ SlV K C ρ H x s ∧ g s h = some d ∧
  ∀ v H', Ex C ρ H ρ H' → SimH K C ρ h H' → Rp K H' (Mo C ρ) v d → Q v H'
section
variable {K : PySem.W.Frag} {mg : Str → Option Value} {C : Fc} {Wx : WX} {σ : St} {H : Hp}
theorem Po.given {ρ : Fps} {h : Hs} {o : Option PyData} {Q : VK} (p : Po K mg C Wx σ ρ H (relE K C) (.give o h) Q) : ∃ d, o = some d ∧ ∀ v H', Ex C ρ H ρ H' → SimH K C ρ h H' → Rp K H' (Mo C ρ) v d → Q v H' := by
  cases o with
  | none => exact p.elim
  | some d => exact ⟨d, rfl, fun v H' x S r => p ρ v H' x S r⟩
theorem rd.bin {g : G2} {f1 f2 : Ev} {Q : VK} (p : rd K mg C Wx (relE K C) (cBin g f1 f2) σ H Q) :
    rd K mg C Wx (relE K C) f1 σ H fun x H1 => rd K mg C Wx (relE K C) f2 σ H1 fun y H2 => rd2 K C g x y H2 Q := by
  refine rd.bind (f := f1) (g := fun s env h => (f2 env h).bind fun t h => .give (g s t h) h) p fun ρ1 env h1 s x H1 S1 E1 r1 P1 => ?_
  refine rd.of (env := env) (h := h1) S1 E1 ?_
  cases e : f2 env h1 with
  | ok t h2 =>
    intro ρ2 y H2 x2 S2 r2
    rw [e] at P1
    obtain ⟨d, e3, q⟩ := (Po.ex x2 P1).given
    exact ⟨ρ2, h2, s, t, d, S2, SlV.ex x2 r1, r2, e3, q⟩
  | err y h2 => rw [e] at P1; exact P1
  | bad => rw [e] at P1; exact P1
theorem rd.un {g : Sl → Hs → Option PyData} {f : Ev} {Q : VK} (p : rd K mg C Wx (relE K C) (cUn g f) σ H Q) : rd K mg C Wx (relE K C) f σ H fun x H1 => rd1 K C g x H1 Q :=
  rd.bind (f := f) (g := fun s env h => .give (g s h) h) p fun ρ1 env h1 s x H1 S1 E1 r1 P1 =>
    let ⟨d, e, q⟩ := P1.given
    ⟨ρ1, h1, s, d, S1, r1, e, q⟩
theorem rd.cb {g : GL} {f : Av} {Q : VK} (p : rd K mg C Wx (relE K C) (cCB g f) σ H Q) : rd K mg C Wx (relA K C) f σ H fun x H1 => rdC K C g x H1 Q :=
  rd.bind (f := f) (g := fun s env h => .give (g s h) h) p fun ρ1 env h1 s x H1 S1 E1 r1 P1 =>
    let ⟨d, e, q⟩ := P1.given
    ⟨ρ1, h1, s, d, S1, r1, e, q⟩
end
theorem OpR.imp {X : Cx} {f : Value → Value → Sem Value} {r r' : R2} (h : OpR X f r) (i : ∀ x y H Q, r' x y H Q → r x y H Q) : OpR X f r' := fun pins s σ H x y v u Q I rx ry q => h pins s σ H x y v u Q I rx ry (i _ _ _ _ q)
theorem UnR.imp {X : Cx} {f : Value → Sem Value} {r r' : V → Hp → VK → Prop} (h : UnR X f r) (i : ∀ x H Q, r' x H Q → r x H Q) : UnR X f r' := fun pins s σ H x v Q I rx q => h pins s σ H x v Q I rx (i _ _ _ q)
theorem CallR.imp {X : Cx} {f : Value} {r r' : List V → Hp → VK → Prop} (h : CallR X f r) (i : ∀ x H Q, r' x H Q → r x H Q) : CallR X f r' := fun pins s σ H x v Q I rx q => h pins s σ H x v Q I rx (i _ _ _ q)
theorem IxR.imp {X : Cx} {r r' : R2} (h : IxR X r) (i : ∀ x y H Q, r' x y H Q → r x y H Q) : IxR X r' := fun va sl pins s σ H x y v u Q I rx ry q hs => h va sl pins s σ H x y v u Q I rx ry (i _ _ _ _ q) hs
/-- two rules for one primitive -/
theorem OpR.two {X : Cx} {C : Fc} {f : Value → Value → Sem Value} {g g1 g2 : G2} (h1 : OpR X f (rd2 X.K C g1)) (h2 : OpR X f (rd2 X.K C g2)) (i : ∀ s t h, g s t h = none ∨ g s t h = g1 s t h ∨ g s t h = g2 s t h) : OpR X f (rd2 X.K C g) := by
  intro pins s σ H x y v u Q I rx ry q
  obtain ⟨ρ, h, a, b, d, S, r1, r2, e, k⟩ := q
  rcases i a b h with z | z | z
  · rw [z] at e; cases e
  · exact h1 pins s σ H x y v u Q I rx ry ⟨ρ, h, a, b, d, S, r1, r2, z ▸ e, k⟩
  · exact h2 pins s σ H x y v u Q I rx ry ⟨ρ, h, a, b, d, S, r1, r2, z ▸ e, k⟩
section
variable {X : Cx} {C : Fc} {Wx : WX} {a b c : Expr} {f1 f2 f3 : Ev} {pos : Pos}
theorem fe_op {op : Operator} {g : G2} (ho : OpR X (binaryOp op) (rd2 X.K C g)) (ha : FE X C Wx a f1) (hb : FE X C Wx b f2) : FE X C Wx (.BinOp a op b pos) (cBin g f1 f2) := PE.imp (pe_op ho ha hb) fun _ _ _ => rd.bin
theorem fe_cmp {op : CmpOp} {g : G2} (ho : OpR X (compareOp op) (rd2 X.K C g)) (ha : FE X C Wx a f1) (hb : FE X C Wx b f2) (hm : behindInMarks op b = false) : FE X C Wx (.Compare a [op] [b] pos) (cBin g f1 f2) := PE.imp (pe_cmpR ho ha hb hm) fun _ _ _ => rd.bin
theorem fe_un {op : UnaryOp} {g : Sl → Hs → Option PyData} (ho : UnR X (unaryOp op) (rd1 X.K C g)) (ha : FE X C Wx a f1) : FE X C Wx (.UnaryOp op a pos) (cUn g f1) := PE.imp (pe_un ho ha) fun _ _ _ => rd.un
theorem fe_ix {g : G2} (ho : IxR X (rd2 X.K C g)) (ha : FE X C Wx a f1) (hb : FE X C Wx b f2) (hs : PlainIx b) : FE X C Wx (.Subscript a b pos) (cBin g f1 f2) := PE.imp (pe_ix ho ha hb hs) fun _ _ _ => rd.bin
end
def Rz.truth (s : Sl) (h : Hs) : Rz Bool := match s with
  | .val (.bool b) => .ok b h
  | _ => .bad
/-- a value that is a truth, as a test -/
def tV (f : Ev) : Tv := fun env h => (f env h).bind fun s h => .truth s h
def tNo (f : Tv) : Tv := fun env h => (f env h).bind fun b h => .ok (!b) h
def tAn (f g : Tv) : Tv := fun env h => (f env h).bind fun b h => if b = true then g env h else .ok false h
def tOr_ (f g : Tv) : Tv := fun env h => (f env h).bind fun b h => if b = true then .ok true h else g env h
section
variable {K : PySem.W.Frag} {mg : Str → Option Value} {C : Fc} {Wx : WX} {σ : St} {H : Hp}
theorem Po.truth {ρ : Fps} {h : Hs} {s : Sl} {v : V} {Q : Bool → Hp → Prop} (S : SimH K C ρ h H) (r : SlV K C ρ H v s) (p : Po K mg C Wx σ ρ H relT (.truth s h) Q) : ∃ k, v = .bl k ∧ Q k H := by
  cases s with
  | loc n => exact p.elim
  | inn n i => exact p.elim
  | exn x => exact p.elim
  | pr _ _ => exact p.elim
  | val d =>
    cases d with
    | bool b =>
      cases (show Rp K H (Mo C ρ) v (.bool b) from r)
      exact ⟨b, rfl, p ρ b H (Ex.refl _ _ _) S rfl⟩
    | _ => exact p.elim
theorem rd.tv {f : Ev} {Q : Bool → Hp → Prop} (p : rd K mg C Wx relT (tV f) σ H Q) : rd K mg C Wx (relE K C) f σ H fun x H1 => ∃ k, x = .bl k ∧ Q k H1 :=
  rd.bind (f := f) (g := fun s env h => .truth s h) p fun ρ1 env h1 s x H1 S1 E1 r1 P1 => P1.truth S1 r1
end
section
variable {X : Cx} {C : Fc} {Wx : WX} {a b c : Expr} {f1 f2 f3 : Ev} {g1 g2 : Tv} {pos : Pos} {rest : List Expr}
theorem ft_cmp {op : CmpOp} {g : G2} (ho : OpR X (compareOp op) (rd2 X.K C g)) (ha : FE X C Wx a f1) (hb : FE X C Wx b f2) (hm : behindInMarks op b = false) : FT X C Wx (.Compare a [op] [b] pos) (tV (cBin g f1 f2)) :=
  PT.imp (pt_cmpR ho ha hb hm) fun _ _ _ p => rd.bin (mg := X.mg) (Wx := Wx) (by
    obtain ⟨ρ, env, h, S, E, P⟩ := rd.tv p
    exact ⟨ρ, env, h, S, E, P⟩)
theorem ft_val (ha : FE X C Wx a f1) (he : ∀ whole, isTrue a X.env whole = (do let v ← whole; standAt a.pos; holding [v] (truthy v)) := by intro _; rfl) : FT X C Wx a (tV f1) := PT.imp (pt_val ha he) fun _ _ _ => rd.tv
theorem ft_not (ha : FT X C Wx a g1) : FT X C Wx (.UnaryOp .Not a pos) (tNo g1) := PT.imp (pt_not ha) fun σ H Q p =>
  rd.bind (f := g1) (g := fun s env h => .ok (!s) h) p fun ρ1 env h1 s x H1 S1 E1 r1 P1 => by
    have e : x = s := r1
    subst e
    exact P1 ρ1 (!x) H1 (Ex.refl _ _ _) S1 rfl
theorem fw_and1 (ha : FT X C Wx a g1) : FW X C Wx (.BoolOp .And [a] pos) g1 := pw_and1 ha
theorem fw_or1 (ha : FT X C Wx a g1) : FW X C Wx (.BoolOp .Or [a] pos) g1 := pw_or1 ha
theorem fw_and (ha : FT X C Wx a g1) (hb : FW X C Wx (.BoolOp .And (b :: rest) pos) g2) : FW X C Wx (.BoolOp .And (a :: b :: rest) pos) (tAn g1 g2) := PW.imp (pw_and ha hb) fun σ H Q p =>
  rd.bind (f := g1) (g := fun s env h => if s = true then g2 env h else .ok false h) p fun ρ1 env h1 s x H1 S1 E1 r1 P1 => by
    have e : x = s := r1
    subst e
    cases x with
    | true => exact rd.of S1 E1 P1
    | false => exact P1 ρ1 false H1 (Ex.refl _ _ _) S1 rfl
theorem fw_or (ha : FT X C Wx a g1) (hb : FW X C Wx (.BoolOp .Or (b :: rest) pos) g2) : FW X C Wx (.BoolOp .Or (a :: b :: rest) pos) (tOr_ g1 g2) := PW.imp (pw_or ha hb) fun σ H Q p =>
  rd.bind (f := g1) (g := fun s env h => if s = true then .ok true h else g2 env h) p fun ρ1 env h1 s x H1 S1 E1 r1 P1 => by
    have e : x = s := r1
    subst e
    cases x with
    | false => exact rd.of S1 E1 P1
    | true => exact P1 ρ1 true H1 (Ex.refl _ _ _) S1 rfl
theorem ft_w (h : FW X C Wx a g1) : FT X C Wx a g1 := h.pt
def eAnd (f g : Ev) : Ev := fun env h => (f env h).bind fun s h => match s with
  | .val (.bool true) => g env h
  | .val (.bool false) => .ok (.val (.bool false)) h
  | _ => .bad
def eOr (f g : Ev) : Ev := fun env h => (f env h).bind fun s h => match s with
  | .val (.bool true) => .ok (.val (.bool true)) h
  | .val (.bool false) => g env h
  | _ => .bad
def eNot (f : Ev) : Ev := fun env h => (f env h).bind fun s h => match s with
  | .val (.bool b) => .ok (.val (.bool (!b))) h
  | _ => .bad
theorem fe_one {op} (h : FE X C Wx a f1) : FE X C Wx (.BoolOp op [a] pos) f1 := pe_one h
theorem fe_and (ha : FE X C Wx a f1) (hb : FE X C Wx (.BoolOp .And (b :: rest) pos) f2) : FE X C Wx (.BoolOp .And (a :: b :: rest) pos) (eAnd f1 f2) := PE.imp (pe_and ha hb) fun σ H Q p => by
  refine rd.bind (f := f1) (g := fun s env h => match s with
    | .val (.bool true) => f2 env h
    | .val (.bool false) => .ok (.val (.bool false)) h
    | _ => .bad) p fun ρ1 env h1 s x H1 S1 E1 r1 P1 => ?_
  cases s with
  | loc n => exact P1.elim
  | inn n i => exact P1.elim
  | exn x => exact P1.elim
  | pr _ _ => exact P1.elim
  | val d =>
    cases d with
    | bool k =>
      cases (show Rp X.K H1 (Mo C ρ1) x (.bool k) from r1)
      refine ⟨k, rfl, ?_⟩
      cases k with
      | true => exact rd.of S1 E1 P1
      | false => exact P1 ρ1 (.bl false) H1 (Ex.refl _ _ _) S1 (Rp.bl false)
    | _ => exact P1.elim
theorem fe_or (ha : FE X C Wx a f1) (hb : FE X C Wx (.BoolOp .Or (b :: rest) pos) f2) : FE X C Wx (.BoolOp .Or (a :: b :: rest) pos) (eOr f1 f2) := PE.imp (pe_or ha hb) fun σ H Q p => by
  refine rd.bind (f := f1) (g := fun s env h => match s with
    | .val (.bool true) => .ok (.val (.bool true)) h
    | .val (.bool false) => f2 env h
    | _ => .bad) p fun ρ1 env h1 s x H1 S1 E1 r1 P1 => ?_
  cases s with
  | loc n => exact P1.elim
  | inn n i => exact P1.elim
  | exn x => exact P1.elim
  | pr _ _ => exact P1.elim
  | val d =>
    cases d with
    | bool k =>
      cases (show Rp X.K H1 (Mo C ρ1) x (.bool k) from r1)
      refine ⟨k, rfl, ?_⟩
      cases k with
      | false => exact rd.of S1 E1 P1
      | true => exact P1 ρ1 (.bl true) H1 (Ex.refl _ _ _) S1 (Rp.bl true)
    | _ => exact P1.elim
theorem fe_not (ha : FE X C Wx a f1) : FE X C Wx (.UnaryOp .Not a pos) (eNot f1) := PE.imp (pe_not ha) fun σ H Q p => by
  refine rd.bind (f := f1) (g := fun s env h => match s with
    | .val (.bool b) => (.ok (.val (.bool (!b))) h : Rz Sl)
    | _ => .bad) p fun ρ1 env h1 s x H1 S1 E1 r1 P1 => ?_
  cases s with
  | loc n => exact P1.elim
  | inn n i => exact P1.elim
  | exn x => exact P1.elim
  | pr _ _ => exact P1.elim
  | val d =>
    cases d with
    | bool k =>
      cases (show Rp X.K H1 (Mo C ρ1) x (.bool k) from r1)
      exact ⟨k, rfl, P1 ρ1 (.bl (!k)) H1 (Ex.refl _ _ _) S1 (Rp.bl (!k))⟩
    | _ => exact P1.elim
def eIf (c : Tv) (f g : Ev) : Ev := fun env h => (c env h).bind fun b h => if b = true then f env h else g env h
theorem fe_if (hc : FT X C Wx c g1) (ha : FE X C Wx a f1) (hb : FE X C Wx b f2) : FE X C Wx (.IfExp c a b pos) (eIf g1 f1 f2) := PE.imp (pe_ifExp hc ha hb) fun σ H Q p =>
  rd.bind (f := g1) (g := fun s env h => if s = true then f1 env h else f2 env h) p fun ρ1 env h1 s x H1 S1 E1 r1 P1 => by
    have e : x = s := r1
    subst e
    cases x with
    | true => exact rd.of S1 E1 P1
    | false => exact rd.of S1 E1 P1
def eChain (g1 g2 : G2) (f1 f2 f3 : Ev) : Ev := fun env h => (f1 env h).bind fun s h => (f2 env h).bind fun t h => match g1 s t h with
  | some (.bool true) => (f3 env h).bind fun u h => .give (g2 t u h) h
  | some (.bool false) => .ok (.val (.bool false)) h
  | _ => .bad
theorem rd.chain {K : PySem.W.Frag} {mg : Str → Option Value} {C : Fc} {Wx : WX} {σ : St} {H : Hp} {g1 g2 : G2} {f1 f2 f3 : Ev} {Q : VK} (p : rd K mg C Wx (relE K C) (eChain g1 g2 f1 f2 f3) σ H Q) :
    tChain (rd2 K C g1) (rd2 K C g2) (rd K mg C Wx (relE K C) f1) (rd K mg C Wx (relE K C) f2) (rd K mg C Wx (relE K C) f3) σ H Q := by
  refine rd.bind (f := f1) (g := fun s env h => (f2 env h).bind fun t h => match g1 s t h with
    | some (.bool true) => (f3 env h).bind fun u h => .give (g2 t u h) h
    | some (.bool false) => .ok (.val (.bool false)) h
    | _ => .bad) p fun ρ1 env h1 s x H1 S1 E1 r1 P1 => ?_
  refine rd.of (env := env) (h := h1) S1 E1 ?_
  cases e : f2 env h1 with
  | err y h2 => rw [e] at P1; exact P1
  | bad => rw [e] at P1; exact P1
  | ok t h2 =>
    intro ρ2 y H2 x2 S2 r2
    rw [e] at P1
    have P2 := Po.ex x2 P1
    have P3 : Po K mg C Wx σ ρ2 H2 (relE K C) (match g1 s t h2 with
      | some (.bool true) => (f3 env h2).bind fun u h => .give (g2 t u h) h
      | some (.bool false) => .ok (.val (.bool false)) h2
      | _ => .bad) Q := P2
    cases e3 : g1 s t h2 with
    | none => rw [e3] at P3; exact P3.elim
    | some d =>
      rw [e3] at P3
      cases d with
      | bool k =>
        refine ⟨ρ2, h2, s, t, .bool k, S2, SlV.ex x2 r1, r2, e3, fun v H3 x3 S3 r3 => ?_⟩
        cases r3
        refine ⟨k, rfl, ?_⟩
        cases k with
        | false =>
          rw [if_neg Bool.false_ne_true]
          exact P3 ρ2 (.bl false) H3 x3 S3 (Rp.bl false)
        | true =>
          rw [if_pos rfl]
          refine rd.of (env := env) (h := h2) S3 ((E1.ex x2).ex x3) ?_
          have P4 : Po K mg C Wx σ ρ2 H2 (relE K C) ((f3 env h2).bind fun u h => .give (g2 t u h) h) Q := P3
          cases e4 : f3 env h2 with
          | err z h3 => rw [e4] at P4; exact Po.ex (r := Rz.err z h3) x3 P4
          | bad => rw [e4] at P4; exact P4
          | ok u h3 =>
            rw [e4] at P4
            intro ρ4 w H4 x4 S4 r4
            obtain ⟨d, e5, q⟩ := (Po.ex (x3.trans x4) P4).given
            exact ⟨ρ4, h3, t, u, d, S4, SlV.ex (x3.trans x4) r2, r4, e5, q⟩
      | _ => exact P3.elim
theorem fe_chain {op op' : CmpOp} {r1 r2 : G2} (ho : OpR X (compareOp op) (rd2 X.K C r1)) (ho' : OpR X (compareOp op') (rd2 X.K C r2)) (ha : FE X C Wx a f1) (hb : FE X C Wx b f2) (hc : FE X C Wx c f3)
    (hm : lastMarks [op, op'] [b, c] = false := by with_unfolding_all rfl) : FE X C Wx (.Compare a [op, op'] [b, c] pos) (eChain r1 r2 f1 f2 f3) := PE.imp (pe_chain ho ho' ha hb hc hm) fun _ _ _ => rd.chain
end
def aNil : Av := fun _ h => .ok [] h
def aCons (f : Ev) (g : Av) : Av := fun env h => (f env h).bind fun s h => (g env h).bind fun ss h => .ok (s :: ss) h
/-- all data -/
def vals? : List Sl → Option (List PyData)
  | [] => some []
  | .val d :: r => (vals? r).map (d :: ·)
  | _ :: _ => none
def lineOk (n : Nat) : Bool := decide (n ≤ 16777216)
theorem lineOk_le {n : Nat} (h : lineOk n = true) : n ≤ sizeLine := by rw [sizeLine_eq]; exact of_decide_eq_true h
def eTup (f : Av) : Ev := fun env h => (f env h).bind fun ss h => .give ((vals? ss).bind fun ds => if lineOk ds.length then some (.tuple ds) else none) h
def eLst (f : Av) : Ev := fun env h => (f env h).bind fun ss h => .give ((vals? ss).bind fun ds => if lineOk ds.length then some (.list ds) else none) h
/-- a list of the def's own -/
def eNew (f : Av) : Ev := fun env h => (f env h).bind fun ss h => match vals? ss with
  | some ds => if lineOk ds.length then .ok (.loc h.length) (h ++ [.lst ds]) else .bad
  | none => .bad
section
variable {K : PySem.W.Frag} {C : Fc} {ρ : Fps} {H : Hp}
theorem vals_rel : ∀ {vs : List V} {ss : List Sl} {ds : List PyData}, SlVs K C ρ H vs ss → vals? ss = some ds → RpAll K H (Mo C ρ) vs ds
  | _, _, ds, .nil, e => by
    have e' : some ([] : List PyData) = some ds := e
    cases e'; exact .nil
  | _, _, ds, .cons (b := .val d) r t, e => by
    have e' : (vals? _).map (d :: ·) = some ds := e
    cases q : vals? _ with
    | none => rw [q] at e'; cases e'
    | some es =>
      rw [q] at e'
      cases e'
      exact .cons r (vals_rel t q)
  | _, _, _, .cons (b := .loc n) r t, e => by cases (show none = some _ from e)
  | _, _, _, .cons (b := .inn n i) r t, e => by cases (show none = some _ from e)
  | _, _, _, .cons (b := .exn x) r t, e => by cases (show none = some _ from e)
end
section
variable {X : Cx} {C : Fc} {Wx : WX} {e : Expr} {es : List Expr} {f : Ev} {g : Av} {pos : Pos}
theorem fa_nil : FA X C Wx [] aNil := PA.imp pa_nil fun σ H Q ⟨ρ, env, h, S, E, P⟩ => P ρ [] H (Ex.refl _ _ _) S .nil
theorem fa_cons (ha : FE X C Wx e f) (hr : FA X C Wx es g) (hs : starEach (e :: es) X.env = (false, eval e X.env) :: starEach es X.env := by rfl) : FA X C Wx (e :: es) (aCons f g) := PA.imp (pa_cons ha hr hs) fun σ H Q p => by
  refine rd.bind (f := f) (g := fun s env h => (g env h).bind fun ss h => .ok (s :: ss) h) p fun ρ1 env h1 s x H1 S1 E1 r1 P1 => ?_
  refine rd.of (env := env) (h := h1) S1 E1 ?_
  cases q : g env h1 with
  | err y h2 => rw [q] at P1; exact P1
  | bad => rw [q] at P1; exact P1
  | ok ss h2 =>
    intro ρ2 ys H2 x2 S2 r2
    rw [q] at P1
    exact P1 ρ2 (x :: ys) H2 x2 S2 (.cons (SlV.ex x2 r1) r2)
theorem give_disp {mk : List PyData → PyData} {ss : List Sl} {h : Hs} {mg : Str → Option Value} {σ : St} {ρ : Fps} {H : Hp} {Q : VK} (p : Po X.K mg C Wx σ ρ H (relE X.K C) (.give ((vals? ss).bind fun ds => if lineOk ds.length then some (mk ds) else none) h) Q) :
    ∃ ds, vals? ss = some ds ∧ ds.length ≤ sizeLine ∧ ∀ v H', Ex C ρ H ρ H' → SimH X.K C ρ h H' → Rp X.K H' (Mo C ρ) v (mk ds) → Q v H' := by
  obtain ⟨d, e, q⟩ := p.given
  cases z : vals? ss with
  | none => rw [z] at e; cases e
  | some ds =>
    rw [z] at e
    have e' : (if lineOk ds.length then some (mk ds) else none) = some d := e
    split at e'
    · rename_i hl
      cases e'
      exact ⟨ds, rfl, lineOk_le hl, q⟩
    · cases e'
theorem fe_tup {x1} (h : FA X C Wx es g) : FE X C Wx (.Tuple es x1 pos) (eTup g) := PE.imp (pe_tup h) fun σ H Q p => by
  refine rd.bind (f := g) (g := fun ss env h => .give ((vals? ss).bind fun ds => if lineOk ds.length then some (.tuple ds) else none) h) p fun ρ1 env h1 ss xs H1 S1 E1 r1 P1 => ?_
  obtain ⟨ds, e, hl, q⟩ := give_disp P1
  have r := vals_rel r1 e
  exact ⟨by rw [r.length]; exact hl, fun p hp => q _ _ (Ex.laid S1 hp) (S1.laid hp) (Rp.newTup S1 hp r)⟩
theorem fe_lst (h : FA X C Wx es g) : FE X C Wx (.List es pos) (eLst g) := PE.imp (pe_lst h) fun σ H Q p => by
  refine rd.bind (f := g) (g := fun ss env h => .give ((vals? ss).bind fun ds => if lineOk ds.length then some (.list ds) else none) h) p fun ρ1 env h1 ss xs H1 S1 E1 r1 P1 => ?_
  obtain ⟨ds, e, hl, q⟩ := give_disp P1
  have r := vals_rel r1 e
  exact ⟨by rw [r.length]; exact hl, fun p hp => q _ _ (Ex.laid S1 hp) (S1.laid hp) (Rp.newLst S1 hp r)⟩
theorem push_lst {ρ : Fps} {h : Hs} {H : Hp} {p : Addr} {vs : List V} {ds : List PyData} {K : PySem.W.Frag} (S : SimH K C ρ h H) (hp : H p = none) (r : RpAll K H (Mo C ρ) vs ds) : SimH K C (ρ ++ [[p]]) (h ++ [.lst ds]) (upd H p (.lst vs)) :=
  S.push hp ⟨p, vs, rfl, upd_same, r.stp (Stp.push hp)⟩
theorem fe_new (h : FA X C Wx es g) : FE X C Wx (.List es pos) (eNew g) := PE.imp (pe_lst h) fun σ H Q p => by
  refine rd.bind (f := g) (g := fun ss env h => match vals? ss with
    | some ds => if lineOk ds.length then (.ok (.loc h.length) (h ++ [.lst ds]) : Rz Sl) else .bad
    | none => .bad) p fun ρ1 env h1 ss xs H1 S1 E1 r1 P1 => ?_
  cases e : vals? ss with
  | none => rw [e] at P1; exact P1.elim
  | some ds =>
    rw [e] at P1
    have r := vals_rel r1 e
    have P2 : Po X.K X.mg C Wx σ ρ1 H1 (relE X.K C) (if lineOk ds.length then .ok (.loc h1.length) (h1 ++ [.lst ds]) else .bad) Q := P1
    split at P2
    · rename_i hl
      refine ⟨by rw [r.length]; exact lineOk_le hl, fun p hp => P2 (ρ1 ++ [[p]]) (.ref p) _ (Ex.push hp) (push_lst S1 hp r) ?_⟩
      rw [← S1.len]
      exact SlV.pushed _
    · exact P2.elim
end
end FL
namespace FL
open PySem PySem.Spec PyProof.Rows L2
/-- the items of a list or tuple -/
def inn? (h : Hs) (n i : Nat) : Option (List PyData) := match h[n]? with
  | some (.lls dss) => dss[i]?
  | some (.dil dss _) => dss[i]?
  | some (.ins _ fs) => match (subs fs)[i]? with
    | some (.lst ds) => some ds
    | _ => none
  | _ => none
def items (s : Sl) (h : Hs) : Option (List PyData) := match s with
  | .val (.list ds) => some ds
  | .val (.tuple ds) => some ds
  | .loc n => match h[n]? with
    | some (.lst ds) => some ds
    | _ => none
  | .inn n i => inn? h n i
  | _ => none
/-- as data -/
def dat (s : Sl) (h : Hs) : Option PyData := match s with
  | .val d => some d
  | .loc n => match h[n]? with
    | some (.lst ds) => some (.list ds)
    | _ => none
  | .inn n i => (inn? h n i).map .list
  | .exn _ => none
  | .pr _ _ => none
theorem SimH.inn {K : PySem.W.Frag} {C : Fc} {ρ : Fps} {h : Hs} {H : Hp} (S : SimH K C ρ h H) {n i : Nat} {fp : List Addr} {a : Addr} {ds : List PyData} (e1 : ρ[n]? = some fp) (e2 : fp[i + 1]? = some a) (e3 : inn? h n i = some ds) : ∃ vs, H a = some (.lst vs) ∧ RpAll K H (Mo C ρ) vs ds := by
  unfold inn? at e3
  split at e3
  · rename_i dss e4
    obtain ⟨b, bs, rfl, _, _, w⟩ := S.obj n fp _ e1 e4
    exact w i a ds (by simpa using e2) e3
  · rename_i dss ks e4
    obtain ⟨b, bs, rfl, _, _, _, w⟩ := S.obj n fp _ e1 e4
    exact w i a ds (by simpa using e2) e3
  · rename_i c fs e4
    obtain ⟨b, Ca, dx, vs, bs, rfl, _, _, r⟩ := S.obj n fp _ e1 e4
    split at e3
    · rename_i ds' e5
      cases e3
      exact r.subL (by simpa using e2) e5
    · cases e3
  · cases e3
section
variable {K : PySem.W.Frag} {C : Fc} {ρ : Fps} {H : Hp} {h : Hs} {v : V} {s : Sl}
theorem items_rel {ds : List PyData} (S : SimH K C ρ h H) (r : SlV K C ρ H v s) (e : items s h = some ds) : ∃ a vs, v = .ref a ∧ (SqL K H a vs ∨ SqT K H a vs) ∧ RpAll K H (Mo C ρ) vs ds := by
  unfold items at e
  split at e
  · rename_i ds'
    cases e
    cases (show Rp K H (Mo C ρ) v (.list ds) from r) with
    | lst q a => exact ⟨_, _, rfl, .inl q.sq, a⟩
  · rename_i ds'
    cases e
    cases (show Rp K H (Mo C ρ) v (.tuple ds) from r) with
    | tup q a => exact ⟨_, _, rfl, .inr q.sq, a⟩
  · rename_i n
    obtain ⟨fp, a, e1, e2, rfl⟩ := r
    split at e
    · rename_i ds' e3
      cases e
      obtain ⟨_, vs, q, a⟩ := S.lst e1 e2 e3
      exact ⟨_, vs, rfl, .inl (SqL.of q), a⟩
    · cases e
  · rename_i n i
    obtain ⟨fp, a, e1, e2, rfl⟩ := r
    obtain ⟨vs, q, ra⟩ := S.inn e1 e2 e
    exact ⟨_, vs, rfl, .inl (SqL.of q), ra⟩
  · cases e
theorem dat_rel {d : PyData} (S : SimH K C ρ h H) (r : SlV K C ρ H v s) (e : dat s h = some d) (nd : d.hasDict = false) : Dp K H v d := by
  unfold dat at e
  split at e
  · cases e
    exact Rp.dp _ _ nd r
  · rename_i n
    obtain ⟨fp, a, e1, e2, rfl⟩ := r
    split at e
    · rename_i ds' e3
      cases e
      obtain ⟨_, vs, q, a⟩ := S.lst e1 e2 e3
      exact .lst (SqL.of q) (RpAll.dp _ _ (by simpa only [PyData.hasDict] using nd) a)
    · cases e
  · rename_i n i
    obtain ⟨fp, a, e1, e2, rfl⟩ := r
    cases q0 : inn? h n i with
    | none => rw [q0] at e; cases e
    | some ds =>
      rw [q0] at e
      cases e
      obtain ⟨vs, q, ra⟩ := S.inn e1 e2 q0
      exact .lst (SqL.of q) (RpAll.dp _ _ (by simpa only [PyData.hasDict] using nd) ra)
  · cases e
  · cases e
end
/-- an operation on two ints -/
def gI (f : Int → Int → Option PyData) : G2 := fun s t _ => match s, t with
  | .val (.int i), .val (.int j) => f i j
  | _, _ => none
theorem gI_some {f : Int → Int → Option PyData} {s t : Sl} {h : Hs} {d : PyData} (e : gI f s t h = some d) : ∃ i j, s = .val (.int i) ∧ t = .val (.int j) ∧ f i j = some d := by
  unfold gI at e
  split at e
  · exact ⟨_, _, rfl, rfl, e⟩
  · cases e
section
variable {X : Cx} {C : Fc}
theorem o_int {f : Value → Value → Sem Value} {g : Int → Int → Option PyData} {r : R2} (ho : OpR X f r) (i : ∀ i j d H Q, g i j = some d → (∀ v, Rp X.K H (fun _ => True) v d → Q v H) → r (.int i) (.int j) H Q)
    (sc : ∀ i j d, g i j = some d → ∀ H M M' v, Rp X.K H M v d → Rp X.K H M' v d) : OpR X f (rd2 X.K C (gI g)) := OpR.imp ho fun x y H Q ⟨ρ, h, s, t, d, S, r1, r2, e, k⟩ => by
  obtain ⟨a, b, rfl, rfl, e⟩ := gI_some e
  cases (show Rp X.K H (Mo C ρ) x (.int a) from r1)
  cases (show Rp X.K H (Mo C ρ) y (.int b) from r2)
  exact i a b d H Q e fun v r => k v H (Ex.refl _ _ _) S (sc a b d e _ _ _ _ r)
def fAdd (i j : Int) : Option PyData := some (.int (i + j))
def fSub (i j : Int) : Option PyData := some (.int (i - j))
def fMul (i j : Int) : Option PyData := if (-(2 ^ 64) < i ∧ i < 2 ^ 64) ∨ (-(2 ^ 64) < j ∧ j < 2 ^ 64) then some (.int (i * j)) else none
def fMod (i j : Int) : Option PyData := if 0 < j then some (.int (i % j)) else none
def fDiv (i j : Int) : Option PyData := if 0 < j ∧ j < 18446744073709551616 then some (.int (i / j)) else none
theorem log2_64 {j : Int} (h : 0 < j ∧ j < 18446744073709551616) : j.natAbs.log2 < 9000 := by
  have h0 : j.natAbs ≠ 0 := by omega
  have h1 : j.natAbs < 2 ^ 64 := by omega
  have := (Nat.log2_lt h0).mpr h1
  omega
def fPow (i j : Int) : Option PyData := if 0 ≤ j ∧ j ≤ 1000000 ∧ i.natAbs < 2 ^ 64 then some (.int (i ^ j.toNat)) else none
def fLt (i j : Int) : Option PyData := some (.bool (decide (i < j)))
def fLe (i j : Int) : Option PyData := some (.bool (decide (i ≤ j)))
def fGt (i j : Int) : Option PyData := some (.bool (decide (j < i)))
def fGe (i j : Int) : Option PyData := some (.bool (decide (j ≤ i)))
theorem sc_int {K : PySem.W.Frag} {H : Hp} {M M' : Ms} {v : V} {n : Int} (r : Rp K H M v (.int n)) : Rp K H M' v (.int n) := by cases r; exact .int n
theorem sc_bool {K : PySem.W.Frag} {H : Hp} {M M' : Ms} {v : V} {n : Bool} (r : Rp K H M v (.bool n)) : Rp K H M' v (.bool n) := by cases r; exact .bl n
theorem o_sub : OpR X (binaryOp .Sub) (rd2 X.K C (gI fSub)) := o_int op_sub (fun i j d H Q e k => by cases e; exact ⟨i, j, rfl, rfl, k _ (.int _)⟩) (fun i j d e H M M' v r => by cases e; exact sc_int r)
theorem o_mul : OpR X (binaryOp .Mult) (rd2 X.K C (gI fMul)) := o_int op_mul (fun i j d H Q e k => by
    unfold fMul at e
    split at e
    · rename_i c
      cases e; exact ⟨i, j, rfl, rfl, c, k _ (.int _)⟩
    · cases e) (fun i j d e H M M' v r => by
    unfold fMul at e
    split at e
    · cases e; exact sc_int r
    · cases e)
theorem o_mod : OpR X (binaryOp .Mod) (rd2 X.K C (gI fMod)) := o_int op_mod (fun i j d H Q e k => by
    unfold fMod at e
    split at e
    · rename_i c
      cases e; exact ⟨i, j, rfl, rfl, c, k _ (.int _)⟩
    · cases e) (fun i j d e H M M' v r => by
    unfold fMod at e
    split at e
    · cases e; exact sc_int r
    · cases e)
theorem o_div : OpR X (binaryOp .FloorDiv) (rd2 X.K C (gI fDiv)) := o_int op_fdivW (fun i j d H Q e k => by
    unfold fDiv at e
    split at e
    · rename_i c
      cases e; exact ⟨i, j, rfl, rfl, ⟨c.1, log2_64 c⟩, k _ (.int _)⟩
    · cases e) (fun i j d e H M M' v r => by
    unfold fDiv at e
    split at e
    · cases e; exact sc_int r
    · cases e)
theorem o_pow : OpR X (binaryOp .Pow) (rd2 X.K C (gI fPow)) := o_int op_pow (fun i j d H Q e k => by
    unfold fPow at e
    split at e
    · rename_i c
      cases e; exact ⟨i, j, rfl, rfl, c, k _ (.int _)⟩
    · cases e) (fun i j d e H M M' v r => by
    unfold fPow at e
    split at e
    · cases e; exact sc_int r
    · cases e)
theorem o_lt : OpR X (compareOp .Lt) (rd2 X.K C (gI fLt)) := o_int op_lt (fun i j d H Q e k => by cases e; exact ⟨i, j, rfl, rfl, k _ (.bl _)⟩) (fun i j d e H M M' v r => by cases e; exact sc_bool r)
theorem o_le : OpR X (compareOp .LtE) (rd2 X.K C (gI fLe)) := o_int op_le (fun i j d H Q e k => by cases e; exact ⟨i, j, rfl, rfl, k _ (.bl _)⟩) (fun i j d e H M M' v r => by cases e; exact sc_bool r)
theorem o_gt : OpR X (compareOp .Gt) (rd2 X.K C (gI fGt)) := o_int op_gt (fun i j d H Q e k => by cases e; exact ⟨i, j, rfl, rfl, k _ (.bl _)⟩) (fun i j d e H M M' v r => by cases e; exact sc_bool r)
theorem o_ge : OpR X (compareOp .GtE) (rd2 X.K C (gI fGe)) := o_int op_ge (fun i j d H Q e k => by cases e; exact ⟨i, j, rfl, rfl, k _ (.bl _)⟩) (fun i j d e H M M' v r => by cases e; exact sc_bool r)
def shp (d : PyData) : Bool := SeqAt.shaped d
theorem shp_nd {d : PyData} (h : shp d = true) : d.hasDict = false := PyData.hasDict_of_canLay d (SeqAt.canLay_of_shaped h)
/-- what may be compared: texts, data of a shape -/
def eqOk (d e : PyData) : Bool := match d, e with
  | .str _, .str _ => true
  | _, _ => shp d && shp e
theorem eqOk_or {d e : PyData} (h : eqOk d e = true) : (∃ a b, d = .str a ∧ e = .str b) ∨ (shp d = true ∧ shp e = true) := by
  unfold eqOk at h
  split at h
  · exact .inl ⟨_, _, rfl, rfl⟩
  · exact .inr (Bool.and_eq_true_iff.mp h)
def gEq : G2 := fun s t h => match dat s h, dat t h with
  | some d, some e => if eqOk d e then some (.bool (PyData.eqv d e)) else none
  | _, _ => none
def gNe : G2 := fun s t h => match dat s h, dat t h with
  | some d, some e => if eqOk d e then some (.bool (!PyData.eqv d e)) else none
  | _, _ => none
theorem eqv_str {a b : Str} : PyData.eqv (.str a) (.str b) = decide (V.str a = V.str b) := by
  by_cases h : a = b
  · subst h; simp [PyData.eqv]
  · have : ¬ V.str a = V.str b := fun z => h (V.str.inj z)
    simp [PyData.eqv, h, this]
theorem dat_str {K : PySem.W.Frag} {ρ : Fps} {h : Hs} {H : Hp} {s : Sl} {v : V} {a : Str} (r : SlV K C ρ H v s) (e : dat s h = some (.str a)) : v = .str a := by
  cases s with
  | val d =>
    have e' : some d = some (.str a) := e
    cases e'
    cases (show Rp K H (Mo C ρ) v (.str a) from r)
    rfl
  | loc n =>
    have e' : (match h[n]? with
      | some (.lst ds) => some (PyData.list ds)
      | _ => none) = some (.str a) := e
    split at e' <;> cases e'
  | inn n i =>
    have e' : (inn? h n i).map PyData.list = some (.str a) := e
    cases q : inn? h n i <;> (rw [q] at e'; cases e')
  | exn x => cases (show (none : Option PyData) = some (.str a) from e)
  | pr _ _ => cases (show (none : Option PyData) = some (.str a) from e)
theorem o_eq (hu : X.A.units + 64 < cLine) : OpR X (compareOp .Eq) (rd2 X.K C gEq) := by
  intro pins st σ H x y v u Q I rx ry ⟨ρ, h, s, t, d, S, r1, r2, e, k⟩
  unfold gEq at e
  split at e
  · rename_i a b e1 e2
    split at e
    · rename_i c
      cases e
      rcases eqOk_or c with ⟨p, q, rfl, rfl⟩ | ⟨c1, c2⟩
      · refine op_eq pins st σ H x y v u Q I rx ry ?_
        rw [dat_str r1 e1, dat_str r2 e2]
        refine ⟨rfl, ?_⟩
        rw [← eqv_str]
        exact k _ H (Ex.refl _ _ _) S (.bl _)
      · exact op_eqD hu pins st σ H x y v u Q I rx ry ⟨a, b, dat_rel S r1 e1 (shp_nd c1), dat_rel S r2 e2 (shp_nd c2), c1, c2, k _ H (Ex.refl _ _ _) S (.bl _)⟩
    · cases e
  · cases e
theorem o_ne (hu : X.A.units + 64 < cLine) : OpR X (compareOp .NotEq) (rd2 X.K C gNe) := by
  intro pins st σ H x y v u Q I rx ry ⟨ρ, h, s, t, d, S, r1, r2, e, k⟩
  unfold gNe at e
  split at e
  · rename_i a b e1 e2
    split at e
    · rename_i c
      cases e
      rcases eqOk_or c with ⟨p, q, rfl, rfl⟩ | ⟨c1, c2⟩
      · refine op_ne pins st σ H x y v u Q I rx ry ?_
        rw [dat_str r1 e1, dat_str r2 e2]
        refine ⟨rfl, ?_⟩
        rw [← eqv_str]
        exact k _ H (Ex.refl _ _ _) S (.bl _)
      · exact op_neD hu pins st σ H x y v u Q I rx ry ⟨a, b, dat_rel S r1 e1 (shp_nd c1), dat_rel S r2 e2 (shp_nd c2), c1, c2, k _ H (Ex.refl _ _ _) S (.bl _)⟩
    · cases e
  · cases e
def isN : Sl → Bool
  | .val .none => true
  | _ => false
def gIsN : G2 := fun s t _ => match t with
  | .val .none => some (.bool (isN s))
  | _ => none
def gNotN : G2 := fun s t _ => match t with
  | .val .none => some (.bool (!isN s))
  | _ => none
theorem isN_rel {K : PySem.W.Frag} {ρ : Fps} {H : Hp} {v : V} {s : Sl} (r : SlV K C ρ H v s) : decide (v = .non) = isN s := by
  cases s with
  | loc n =>
    obtain ⟨fp, a, _, _, rfl⟩ := r
    rfl
  | inn n i =>
    obtain ⟨fp, a, _, _, rfl⟩ := r
    rfl
  | exn x =>
    obtain ⟨a, _, rfl⟩ := r
    rfl
  | pr n d =>
    obtain ⟨t, a, w, fp, rfl, _⟩ := r
    rfl
  | val d =>
    have r' : Rp K H (Mo C ρ) v d := r
    cases r' <;> rfl
theorem o_is : OpR X (compareOp .Is) (rd2 X.K C gIsN) := OpR.imp op_isN fun x y H Q ⟨ρ, h, s, t, d, S, r1, r2, e, k⟩ => by
  unfold gIsN at e
  split at e
  · cases e
    cases (show Rp X.K H (Mo C ρ) y .none from r2)
    refine ⟨rfl, ?_⟩
    rw [isN_rel r1]
    exact k _ H (Ex.refl _ _ _) S (.bl _)
  · cases e
theorem o_isnot : OpR X (compareOp .IsNot) (rd2 X.K C gNotN) := OpR.imp op_notN fun x y H Q ⟨ρ, h, s, t, d, S, r1, r2, e, k⟩ => by
  unfold gNotN at e
  split at e
  · cases e
    cases (show Rp X.K H (Mo C ρ) y .none from r2)
    refine ⟨rfl, ?_⟩
    rw [isN_rel r1]
    exact k _ H (Ex.refl _ _ _) S (.bl _)
  · cases e
def gIx : G2 := fun s t h => match items s h, t with
  | some ds, .val (.int i) => atI ds i
  | _, _ => none
theorem atI_rel {K : PySem.W.Frag} {H : Hp} {M : Ms} {vs : List V} {ds : List PyData} {i : Int} {d : PyData} (r : RpAll K H M vs ds) (e : atI ds i = some d) : ∃ v, atI vs i = some v ∧ Rp K H M v d := by
  unfold atI at e ⊢
  rw [r.length]
  cases q : ixN ds.length i with
  | none => rw [q] at e; cases e
  | some j =>
    rw [q] at e
    exact r.get e
theorem i_ix : IxR X (rd2 X.K C gIx) := IxR.imp ix_seq fun x y H Q ⟨ρ, h, s, t, d, S, r1, r2, e, k⟩ => by
  unfold gIx at e
  split at e
  · rename_i ds i e1
    cases (show Rp X.K H (Mo C ρ) y (.int i) from r2)
    obtain ⟨a, vs, rfl, sq, ra⟩ := items_rel S r1 e1
    obtain ⟨v, ev, rv⟩ := atI_rel ra e
    have fin := k v H (Ex.refl _ _ _) S rv
    rcases sq with sq | sq
    · exact .inl ⟨a, vs, i, v, rfl, rfl, sq, ev, fin⟩
    · exact .inr (.inl ⟨a, vs, i, v, rfl, rfl, sq, ev, fin⟩)
  · cases e
end
def gLen : GL := fun ss h => match ss with
  | [s] => (items s h).map fun ds => .int ds.length
  | _ => none
def bools? : List PyData → Option (List Bool)
  | [] => some []
  | .bool b :: r => (bools? r).map (b :: ·)
  | _ :: _ => none
def ints? : List PyData → Option (List Int)
  | [] => some []
  | .int b :: r => (ints? r).map (b :: ·)
  | _ :: _ => none
/-- the items of a list alone -/
def litems (s : Sl) (h : Hs) : Option (List PyData) := match s with
  | .val (.list ds) => some ds
  | .loc n => match h[n]? with
    | some (.lst ds) => some ds
    | _ => none
  | .inn n i => inn? h n i
  | _ => none
def gAll : GL := fun ss h => match ss with
  | [s] => ((litems s h).bind bools?).map fun bs => .bool (bs.all id)
  | _ => none
def gAny : GL := fun ss h => match ss with
  | [s] => ((litems s h).bind bools?).map fun bs => .bool (bs.any id)
  | _ => none
def gSum : GL := fun ss h => match ss with
  | [s] => ((litems s h).bind ints?).map fun bs => .int bs.sum
  | _ => none
def gInt : GL := fun ss _ => match ss with
  | [.val (.int i)] => some (.int i)
  | [.val (.bool b)] => some (.int (if b then 1 else 0))
  | _ => none
def gMax2 : GL := fun ss _ => match ss with
  | [.val (.int i), .val (.int j)] => some (.int (if j > i then j else i))
  | _ => none
def gMin2 : GL := fun ss _ => match ss with
  | [.val (.int i), .val (.int j)] => some (.int (if j < i then j else i))
  | _ => none
def gTuple : GL := fun ss h => match ss with
  | [s] => (items s h).map fun ds => .tuple ds
  | _ => none
def gList : GL := fun ss h => match ss with
  | [s] => (items s h).map fun ds => .list ds
  | _ => none
section
variable {K : PySem.W.Frag} {C : Fc} {ρ : Fps} {H : Hp} {h : Hs} {v : V} {s : Sl}
theorem litems_rel {ds : List PyData} (S : SimH K C ρ h H) (r : SlV K C ρ H v s) (e : litems s h = some ds) : ∃ a vs, v = .ref a ∧ SqL K H a vs ∧ RpAll K H (Mo C ρ) vs ds := by
  unfold litems at e
  split at e
  · cases e
    cases (show Rp K H (Mo C ρ) v (.list ds) from r) with
    | lst q a => exact ⟨_, _, rfl, q.sq, a⟩
  · rename_i n
    obtain ⟨fp, a, e1, e2, rfl⟩ := r
    split at e
    · rename_i ds' e3
      cases e
      obtain ⟨_, vs, q, a⟩ := S.lst e1 e2 e3
      exact ⟨_, vs, rfl, SqL.of q, a⟩
    · cases e
  · rename_i n i
    obtain ⟨fp, a, e1, e2, rfl⟩ := r
    obtain ⟨vs, q, ra⟩ := S.inn e1 e2 e
    exact ⟨_, vs, rfl, SqL.of q, ra⟩
  · cases e
theorem bools_rel : ∀ {M : Ms} {vs : List V} {ds : List PyData} {bs : List Bool}, RpAll K H M vs ds → bools? ds = some bs → vs = bs.map V.bl
  | _, _, [], bs, .nil, e => by
    have e' : some ([] : List Bool) = some bs := e
    cases e'; rfl
  | _, _, .bool b :: r, bs, .cons q t, e => by
    cases q
    have e' : (bools? r).map (b :: ·) = some bs := e
    cases z : bools? r with
    | none => rw [z] at e'; cases e'
    | some cs =>
      rw [z] at e'
      cases e'
      rw [bools_rel t z]; rfl
  | _, _, .none :: _, _, .cons _ _, e => by cases (show none = some _ from e)
  | _, _, .int _ :: _, _, .cons _ _, e => by cases (show none = some _ from e)
  | _, _, .str _ :: _, _, .cons _ _, e => by cases (show none = some _ from e)
  | _, _, .list _ :: _, _, .cons _ _, e => by cases (show none = some _ from e)
  | _, _, .tuple _ :: _, _, .cons _ _, e => by cases (show none = some _ from e)
  | _, _, .dict _ :: _, _, .cons _ _, e => by cases (show none = some _ from e)
theorem ints_rel : ∀ {M : Ms} {vs : List V} {ds : List PyData} {bs : List Int}, RpAll K H M vs ds → ints? ds = some bs → vs = bs.map V.int
  | _, _, [], bs, .nil, e => by
    have e' : some ([] : List Int) = some bs := e
    cases e'; rfl
  | _, _, .int b :: r, bs, .cons q t, e => by
    cases q
    have e' : (ints? r).map (b :: ·) = some bs := e
    cases z : ints? r with
    | none => rw [z] at e'; cases e'
    | some cs =>
      rw [z] at e'
      cases e'
      rw [ints_rel t z]; rfl
  | _, _, .none :: _, _, .cons _ _, e => by cases (show none = some _ from e)
  | _, _, .bool _ :: _, _, .cons _ _, e => by cases (show none = some _ from e)
  | _, _, .str _ :: _, _, .cons _ _, e => by cases (show none = some _ from e)
  | _, _, .list _ :: _, _, .cons _ _, e => by cases (show none = some _ from e)
  | _, _, .tuple _ :: _, _, .cons _ _, e => by cases (show none = some _ from e)
  | _, _, .dict _ :: _, _, .cons _ _, e => by cases (show none = some _ from e)
theorem SlVs.one {xs : List V} (r : SlVs K C ρ H xs [s]) : ∃ x, xs = [x] ∧ SlV K C ρ H x s := by
  cases r with
  | cons a b => cases b; exact ⟨_, rfl, a⟩
theorem SlVs.two {t : Sl} {xs : List V} (r : SlVs K C ρ H xs [s, t]) : ∃ x y, xs = [x, y] ∧ SlV K C ρ H x s ∧ SlV K C ρ H y t := by
  cases r with
  | cons a b =>
    cases b with
    | cons c d => cases d; exact ⟨_, _, rfl, a, c⟩
end
section
variable {X : Cx} {C : Fc}
theorem map_some {α β : Type} {o : Option α} {f : α → β} {b : β} (e : o.map f = some b) : ∃ a, o = some a ∧ b = f a := by
  cases o with
  | none => cases e
  | some a => cases e; exact ⟨a, rfl, rfl⟩
theorem bind_some {α β : Type} {o : Option α} {f : α → Option β} {b : β} (e : o.bind f = some b) : ∃ a, o = some a ∧ f a = some b := by
  cases o with
  | none => cases e
  | some a => exact ⟨a, rfl, e⟩
theorem c_len : CallR X (.builtin "len") (rdC X.K C gLen) := CallR.imp call_len_seq fun xs H Q ⟨ρ, h, ss, d, S, r, e, k⟩ => by
  unfold gLen at e
  split at e
  · obtain ⟨x, rfl, ro⟩ := r.one
    obtain ⟨ds, e1, rfl⟩ := map_some e
    obtain ⟨a, vs, rfl, sq, ra⟩ := items_rel S ro e1
    refine ⟨a, vs, rfl, sq, ?_⟩
    rw [ra.length]
    exact k _ H (Ex.refl _ _ _) S (.int _)
  · cases e
theorem c_all (hc : X.calm = true) : CallR X (.builtin "all") (rdC X.K C gAll) := CallR.imp (cr_all hc) fun xs H Q ⟨ρ, h, ss, d, S, r, e, k⟩ => by
  unfold gAll at e
  split at e
  · obtain ⟨x, rfl, ro⟩ := r.one
    obtain ⟨bs, e1, rfl⟩ := map_some e
    obtain ⟨ds, e2, e3⟩ := bind_some e1
    obtain ⟨a, vs, rfl, sq, ra⟩ := litems_rel S ro e2
    have ev := bools_rel ra e3
    subst ev
    exact ⟨a, bs, rfl, sq, k _ H (Ex.refl _ _ _) S (.bl _)⟩
  · cases e
theorem c_sum (hc : X.calm = true) : CallR X (.builtin "sum") (rdC X.K C gSum) := CallR.imp (cr_sum hc) fun xs H Q ⟨ρ, h, ss, d, S, r, e, k⟩ => by
  unfold gSum at e
  split at e
  · obtain ⟨x, rfl, ro⟩ := r.one
    obtain ⟨bs, e1, rfl⟩ := map_some e
    obtain ⟨ds, e2, e3⟩ := bind_some e1
    obtain ⟨a, vs, rfl, sq, ra⟩ := litems_rel S ro e2
    have ev := ints_rel ra e3
    subst ev
    exact ⟨a, bs, rfl, sq, k _ H (Ex.refl _ _ _) S (.int _)⟩
  · cases e
theorem c_max2 (hc : X.calm = true) : CallR X (.builtin "max") (rdC X.K C gMax2) := CallR.imp (call_max2 hc) fun xs H Q ⟨ρ, h, ss, d, S, r, e, k⟩ => by
  unfold gMax2 at e
  split at e
  · rename_i i j
    obtain ⟨x, y, rfl, r1, r2⟩ := r.two
    cases (show Rp X.K H (Mo C ρ) x (.int i) from r1)
    cases (show Rp X.K H (Mo C ρ) y (.int j) from r2)
    cases e
    exact ⟨i, j, rfl, k _ H (Ex.refl _ _ _) S (.int _)⟩
  · cases e
theorem c_min2 (hc : X.calm = true) : CallR X (.builtin "min") (rdC X.K C gMin2) := CallR.imp (call_min2 hc) fun xs H Q ⟨ρ, h, ss, d, S, r, e, k⟩ => by
  unfold gMin2 at e
  split at e
  · rename_i i j
    obtain ⟨x, y, rfl, r1, r2⟩ := r.two
    cases (show Rp X.K H (Mo C ρ) x (.int i) from r1)
    cases (show Rp X.K H (Mo C ρ) y (.int j) from r2)
    cases e
    exact ⟨i, j, rfl, k _ H (Ex.refl _ _ _) S (.int _)⟩
  · cases e
theorem c_list : CallR X (.type "list") (rdC X.K C gList) := CallR.imp call_list_of fun xs H Q ⟨ρ, h, ss, d, S, r, e, k⟩ => by
  unfold gList at e
  split at e
  · obtain ⟨x, rfl, ro⟩ := r.one
    obtain ⟨ds, e1, rfl⟩ := map_some e
    obtain ⟨a, vs, rfl, sq, ra⟩ := items_rel S ro e1
    exact ⟨a, vs, rfl, sq, fun p hp => k _ _ (Ex.laid S hp) (S.laid hp) (Rp.newLst S hp ra)⟩
  · cases e
theorem c_tuple : CallR X (.type "tuple") (rdC X.K C gTuple) := CallR.imp call_tuple_of fun xs H Q ⟨ρ, h, ss, d, S, r, e, k⟩ => by
  unfold gTuple at e
  split at e
  · rename_i s
    obtain ⟨x, rfl, ro⟩ := r.one
    obtain ⟨ds, e1, rfl⟩ := map_some e
    by_cases ht : s = .val (.tuple ds)
    · subst ht
      have r' : Rp X.K H (Mo C ρ) x (.tuple ds) := ro
      cases r' with
      | tup q a => exact ⟨_, _, rfl, .inr ⟨q.sq, k _ H (Ex.refl _ _ _) S (.tup q a)⟩⟩
    · have e2 : litems s h = some ds := by
        unfold items at e1
        unfold litems
        split at e1
        · exact e1
        · cases e1; exact absurd rfl ht
        · exact e1
        · exact e1
        · cases e1
      obtain ⟨a, vs, rfl, sq, ra⟩ := litems_rel S ro e2
      exact ⟨a, vs, rfl, .inl ⟨sq, fun p hp => k _ _ (Ex.laid S hp) (S.laid hp) (Rp.newTup S hp ra)⟩⟩
  · cases e
variable {Wx : WX} {x : Str} {p pos : Pos} {e : Expr} {es : List Expr} {f : Av} {id T : String} {g : GL}
theorem fe_callB (hc : CallR X (.builtin id) (rdC X.K C g)) (hg : Gl X x) (hm : X.mg x = none) (hv : bootBuiltins x = some (.builtin id)) (ha : FA X C Wx (e :: es) f) (hn : x ≠ "__name__" := by decide) (hdb : (x == ("__debug__" : Str)) = false := by decide)
    (he : starEach (e :: es) X.env = (false, eval e X.env) :: starEach es X.env := by rfl) (hpl : (backTo pos (starEach es X.env)).any (·.1) = false := by rfl) : FE X C Wx (.Call (.Name x p) (e :: es) [] pos) (cCB g f) :=
  PE.imp (pe_callB hc hg hm hv ha hn hdb he hpl) fun _ _ _ => rd.cb
theorem fe_callTy (hc : CallR X (.type T) (rdC X.K C g)) (hg : Gl X x) (hm : X.mg x = none) (hv : bootBuiltins x = some (.type T)) (ha : FA X C Wx (e :: es) f) (hn : x ≠ "__name__" := by decide) (hdb : (x == ("__debug__" : Str)) = false := by decide)
    (he : starEach (e :: es) X.env = (false, eval e X.env) :: starEach es X.env := by rfl) (hpl : (backTo pos (starEach es X.env)).any (·.1) = false := by rfl) : FE X C Wx (.Call (.Name x p) (e :: es) [] pos) (cCB g f) :=
  PE.imp (pe_callTy hc hg hm hv ha hn hdb he hpl) fun _ _ _ => rd.cb
end
def tyN (s : Sl) (h : Hs) : Option String := match s with
  | .val .none => some "NoneType"
  | .val (.bool _) => some "bool"
  | .val (.int _) => some "int"
  | .val (.str _) => some "str"
  | .val (.list _) => some "list"
  | .val (.tuple _) => some "tuple"
  | .val (.dict _) => some "dict"
  | .loc n => match h[n]? with
    | some (.lst _) => some "list"
    | _ => none
  | .inn n i => (inn? h n i).map fun _ => "list"
  | .exn _ => none
  | .pr _ _ => none
def isaN (c t : String) : Bool := (t == c) || (c == "int" && t == "bool")
def gIsa (c : String) : Sl → Hs → Option PyData := fun s h => (tyN s h).map fun t => .bool (isaN c t)
/-- a type, or a function -/
inductive TyF (K : PySem.W.Frag) (H : Hp) : V → Value → Prop where
  | x {v : V} {t : Value} (h : TyX K H v t) : TyF K H v t
  | fn {a c : Addr} {q x : Str} {n : Nat} (h : H a = some (LamFn a c q x n)) : TyF K H (.ref a) (.type "function")
  | fg {a : Addr} {o : Obj} (h : K.lookup a = some o) (c : o.cls = .type "function") : TyF K H (.ref a) (.type "function")
def ClL : List String := ["int", "bool", "tuple", "str", "list"]
def TyL : List String := ["NoneType", "bool", "int", "str", "list", "tuple", "dict"]
def KtB (t t2 : String) : Prop := ∀ c ∈ ClL, kitB t2 c = some (isaN c t)
theorem ktB_of {t : String} (h : t ∈ TyL) : KtB t t := by
  have all : ∀ t ∈ TyL, ∀ c ∈ ClL, kitB t c = some (isaN c t) := by decide +kernel
  exact all t h
theorem ktB_fn : KtB "dict" "function" := by
  have all : ∀ c ∈ ClL, kitB "function" c = some (isaN c "dict") := by decide +kernel
  exact all
theorem tyN_rel {K : PySem.W.Frag} {C : Fc} {ρ : Fps} {H : Hp} {h : Hs} {v : V} {s : Sl} {t : String} (S : SimH K C ρ h H) (r : SlV K C ρ H v s) (e : tyN s h = some t) : ∃ t2, TyF K H v t2 ∧ ∀ c ∈ ClL, PySem.W.kitOne K t2 (.type c) = some (isaN c t) := by
  have ok : ∀ {t : String}, TyX K H v (.type t) → t ∈ TyL → ∃ t2, TyF K H v t2 ∧ ∀ c ∈ ClL, PySem.W.kitOne K t2 (.type c) = some (isaN c t) := fun h m => ⟨_, .x h, fun c hc => kit_ty (ktB_of m c hc)⟩
  unfold tyN at e
  split at e
  · cases e; cases (show Rp K H (Mo C ρ) v .none from r); exact ok (.base .non) (by decide)
  · cases e; rename_i b; cases (show Rp K H (Mo C ρ) v (.bool b) from r); exact ok (.base (.bl _)) (by decide)
  · cases e; rename_i b; cases (show Rp K H (Mo C ρ) v (.int b) from r); exact ok (.base (.int _)) (by decide)
  · cases e; rename_i b; cases (show Rp K H (Mo C ρ) v (.str b) from r); exact ok (.base (.str _)) (by decide)
  · cases e; rename_i b
    cases (show Rp K H (Mo C ρ) v (.list b) from r) with
    | lst q a =>
      rcases q with ⟨q | ⟨o, q⟩, _⟩ | ⟨its, n, q, _⟩
      · exact ok (.base (.lst q)) (by decide)
      · exact ok (.base (.frz q)) (by decide)
      · exact ok (.kList q rfl) (by decide)
  · cases e; rename_i b
    cases (show Rp K H (Mo C ρ) v (.tuple b) from r) with
    | tup q a =>
      rcases q with ⟨q | ⟨o, q⟩, _⟩ | ⟨o, its, n, q, c, _⟩
      · exact ok (.base (.tup q)) (by decide)
      · exact ok (.fTuple q) (by decide)
      · exact ok (.kTuple q c) (by decide)
  · cases e; rename_i b
    cases (show Rp K H (Mo C ρ) v (.dict b) from r) with
    | dct ps q eb =>
      cases ps with
      | dic ps =>
        rcases q.1 with z | ⟨ob, kvs, _, z⟩
        · exact ok (.base (.dK z)) (by decide)
        · exact ok (.fDict z) (by decide)
      | lam x n =>
        obtain ⟨c, qq, h1, _⟩ := q
        exact ⟨_, .fn h1, fun c hc => kit_ty (ktB_fn c hc)⟩
      | gfn x =>
        obtain ⟨_, o, h1, h2⟩ := q
        exact ⟨_, .fg h1 h2, fun c hc => kit_ty (ktB_fn c hc)⟩
    | obj w h1 h2 h3 he =>
      cases w with
      | dic ks =>
        rcases h1.1 with z | ⟨ob, kvs, e0, z⟩
        · exact ok (.base (.dK (z.trans (congrArg some h2.1)))) (by decide)
        · exact ok (.fDict (z.trans (by rw [h2.1]))) (by decide)
      | ins c fs =>
        obtain ⟨Ca, dx, ic, eo, _⟩ := h2
        rcases h1.1 with hI | ⟨_, _, z, _⟩
        · rw [eo] at hI
          refine ⟨_, .x (.base (.ins hI ic.cls ic.ha ic.hn ic.ht ic.hm)), fun c hc => ?_⟩
          rw [ic.ty c hc]
          have all : ∀ c ∈ ClL, isaN c "dict" = false := by decide +kernel
          rw [all c hc]
        · rw [eo] at z; cases z
  · rename_i n
    obtain ⟨fp, a, e1, e2, rfl⟩ := r
    split at e
    · rename_i ds' e3
      cases e
      obtain ⟨_, vs, q, a⟩ := S.lst e1 e2 e3
      exact ok (.base (.lst q)) (by decide)
    · cases e
  · rename_i n i
    obtain ⟨fp, a, e1, e2, rfl⟩ := r
    cases q0 : inn? h n i with
    | none => rw [q0] at e; cases e
    | some ds =>
      rw [q0] at e
      cases e
      obtain ⟨vs, q, ra⟩ := S.inn e1 e2 q0
      exact ok (t := "list") (.base (.lst q)) (by decide)
  · cases e
  · cases e
/-- isinstance(x, c), x perhaps a function -/
def rIsiF (K : PySem.W.Frag) : List V → Hp → VK → Prop := fun xs H Q => ∃ (x c : V) (t u : Value) (b : Bool), xs = [x, c] ∧ ClsV c u ∧ TyF K H x t ∧ PySem.W.kitOne K t u = some b ∧ Q (.bl b) H
theorem kit_ofF {X : Cx} {pins : List (Addr × Obj)} {σ : St} {H : Hp} {s : Shared} {x : V} {u t : Value} (I : Inv X pins σ H s) (rx : RelV x u) (ty : TyF X.K H x t) : ∃ P : Heap → Prop, PySem.W.KitX X.K u t P ∧ P s.heap ∧ u ≠ .builtin "__main__.__loader__#opaque" := by
  cases ty with
  | x h => exact kit_of I rx h
  | @fn a c q x n h =>
    cases (show u = Value.ref a from rx)
    have ok := I.hok a _ h
    obtain ⟨⟨_, _, _, _, _, _, hg⟩, _⟩ := ok
    exact ⟨_, fnC_kit, ⟨_, hg, rfl⟩, fun z => nomatch z⟩
  | @fg a o h c =>
    cases (show u = Value.ref a from rx)
    exact ⟨_, fnC_kit, ⟨_, I.kIn _ _ h, c⟩, fun z => nomatch z⟩
theorem call_isiF {X : Cx} : CallR X (.builtin "isinstance") (rIsiF X.K) := by
  intro pins s σ H xs us Q I r h
  obtain ⟨x, c, t, u, b, rfl, k, ty, e, q⟩ := h
  obtain ⟨u1, u2, rfl, r1, r2⟩ := vals2 r
  have e2 := k.eq r2
  subst e2
  obtain ⟨P, Z, p, hx⟩ := kit_ofF I r1 ty
  exact PySem.W.kia_one Z I.kIn p e hx fun tk => ⟨.bl b, H, I.tok tk, rfl, q⟩
section
variable {X : Cx} {C : Fc} {Wx : WX} {x y : Str} {p q pos : Pos} {e : Expr} {f : Ev} {c : String}
/-- isinstance(e, c), c a built-in class by its name -/
theorem fe_isa (hcl : c ∈ ["int", "bool", "tuple", "str", "list"]) (hg : Gl X "isinstance") (hm : X.mg "isinstance" = none) (hg2 : Gl X y) (hm2 : X.mg y = none) (hv2 : bootBuiltins y = some (.type c)) (ha : FE X C Wx e f)
    (hn2 : y ≠ "__name__" := by decide) (hd2 : (y == ("__debug__" : Str)) = false := by decide)
    (hs1 : starEach (e :: [.Name y q]) X.env = (false, eval e X.env) :: starEach [.Name y q] X.env := by rfl) (hs2 : starEach (Expr.Name y q :: []) X.env = (false, eval (.Name y q) X.env) :: starEach [] X.env := by rfl)
    (hpl : (backTo pos (starEach [Expr.Name y q] X.env)).any (·.1) = false := by rfl) : FE X C Wx (.Call (.Name "isinstance" p) [e, .Name y q] [] pos) (cUn (gIsa c) f) := by
  have hA : PA X [e, .Name y q] (tCons (rd X.K X.mg C Wx (relE X.K C) f) (tCons (tC (.ty c)) tNil)) := pa_cons ha (pa_cons (pe_bltn (v := .ty c) hg2 hm2 hv2 rfl hn2 hd2) pa_nil hs2) hs1
  refine PE.imp (pe_callB call_isiF hg hm (by decide +kernel) hA (by decide) (by decide) hs1 hpl) fun σ H Q pp => ?_
  refine rd.bind (f := f) (g := fun s env h => .give (gIsa c s h) h) pp fun ρ1 env h1 s v H1 S1 E1 r1 P1 => ?_
  obtain ⟨d, e1, k⟩ := P1.given
  obtain ⟨t, e2, rfl⟩ := map_some e1
  obtain ⟨t2, r3, r4⟩ := tyN_rel S1 r1 e2
  exact ⟨v, .ty c, t2, .type c, isaN c t, rfl, .ty c, r3, r4 c hcl, k _ H1 (Ex.refl _ _ _) S1 (.bl _)⟩
end
def oNone : En → Hs → Rz (Option Int) := fun _ h => .ok none h
def oSome (f : Ev) : En → Hs → Rz (Option Int) := fun env h => (f env h).bind fun s h => match s with
  | .val (.int i) => .ok (some i) h
  | _ => .bad
def cutD (ds : List PyData) (lo hi : Option Int) : List PyData := (ds.drop (HT.sIx ds.length 0 lo)).take (HT.sIx ds.length ds.length hi - HT.sIx ds.length 0 lo)
def gCut (s : Sl) (lo hi : Option Int) (h : Hs) : Option PyData := match s with
  | .val (.tuple ds) => some (.tuple (cutD ds lo hi))
  | .val (.list ds) => some (.list (cutD ds lo hi))
  | .loc n => match h[n]? with
    | some (.lst ds) => some (.list (cutD ds lo hi))
    | _ => none
  | _ => none
def eSl (f : Ev) (lo hi : En → Hs → Rz (Option Int)) : Ev := fun env h => (f env h).bind fun s h => (lo env h).bind fun l h => (hi env h).bind fun u h => .give (gCut s l u h) h
section
variable {X : Cx} {C : Fc} {Wx : WX} {e : Expr} {f : Ev}
theorem fo_none : FO X C Wx none oNone := PO.imp po_none fun σ H Q ⟨ρ, env, h, S, E, P⟩ => P ρ none H (Ex.refl _ _ _) S rfl
theorem fo_some (ha : FE X C Wx e f) : FO X C Wx (some e) (oSome f) := PO.imp (po_some ha) fun σ H Q p => by
  refine rd.bind (f := f) (g := fun s env h => match s with
    | .val (.int i) => (.ok (some i) h : Rz (Option Int))
    | _ => .bad) p fun ρ1 env h1 s v H1 S1 E1 r1 P1 => ?_
  cases s with
  | loc n => exact P1.elim
  | inn n i => exact P1.elim
  | exn x => exact P1.elim
  | pr _ _ => exact P1.elim
  | val d =>
    cases d with
    | int i =>
      cases (show Rp X.K H1 (Mo C ρ1) v (.int i) from r1)
      exact ⟨i, rfl, P1 ρ1 (some i) H1 (Ex.refl _ _ _) S1 rfl⟩
    | _ => exact P1.elim
theorem cut_rel {K : PySem.W.Frag} {H : Hp} {M : Ms} {vs : List V} {ds : List PyData} {lo hi : Option Int} (r : RpAll K H M vs ds) : RpAll K H M (cutV vs lo hi) (cutD ds lo hi) := by
  unfold cutV cutD
  rw [r.length]
  exact (r.drop _).take _
theorem cut_whole (ds : List PyData) (lo hi : Option Int) (h : HT.sIx ds.length 0 lo = 0 ∧ HT.sIx ds.length ds.length hi = ds.length) : cutD ds lo hi = ds := by
  unfold cutD
  rw [h.1, h.2]
  simp
def rSlD (K : PySem.W.Frag) (C : Fc) : V → Option Int → Option Int → Hp → VK → Prop := fun x lo hi H Q => ∃ ρ h s d, SimH K C ρ h H ∧ SlV K C ρ H x s ∧ gCut s lo hi h = some d ∧
  ∀ v H', Ex C ρ H ρ H' → SimH K C ρ h H' → Rp K H' (Mo C ρ) v d → Q v H'
theorem s_cut : SlR X (rSlD X.K C) := by
  intro pins s σ H x v vl vu lo hi sl Q I rx hs pl pu q
  refine (sl_tupA.or sl_list) pins s σ H x v vl vu lo hi sl Q I rx hs pl pu ?_
  obtain ⟨ρ, h, a, d, S, r, e, k⟩ := q
  unfold gCut at e
  split at e
  · rename_i ds
    cases e
    cases (show Rp X.K H (Mo C ρ) x (.tuple ds) from r) with
    | tup q ra =>
      refine .inl ⟨_, _, rfl, q.sq, fun w => k _ H (Ex.refl _ _ _) S ?_, fun w p hp => k _ _ (Ex.laid S hp) (S.laid hp) (Rp.newTup S hp (cut_rel ra))⟩
      rw [cut_whole ds lo hi (by rw [← ra.length]; exact w)]
      exact .tup q ra
  · rename_i ds
    cases e
    cases (show Rp X.K H (Mo C ρ) x (.list ds) from r) with
    | lst q ra => exact .inr ⟨_, _, rfl, q.sq, fun p hp => k _ _ (Ex.laid S hp) (S.laid hp) (Rp.newLst S hp (cut_rel ra))⟩
  · rename_i n
    obtain ⟨fp, a, e1, e2, rfl⟩ := r
    split at e
    · rename_i ds e3
      cases e
      obtain ⟨_, vs, q, ra⟩ := S.lst e1 e2 e3
      exact .inr ⟨a, vs, rfl, SqL.of q, fun p hp => k _ _ (Ex.laid S hp) (S.laid hp) (Rp.newLst S hp (cut_rel ra))⟩
    · cases e
  · cases e
theorem fe_slice {lo hi : Option Expr} {fl fh : En → Hs → Rz (Option Int)} {pos p2 : Pos} (he : FE X C Wx e f) (hl : FO X C Wx lo fl) (hu : FO X C Wx hi fh) : FE X C Wx (.Subscript e (.Slice lo hi none p2) pos) (eSl f fl fh) :=
  PE.imp (pe_slice s_cut he hl hu) fun σ H Q p => by
    refine rd.bind (f := f) (g := fun s env h => (fl env h).bind fun l h => (fh env h).bind fun u h => .give (gCut s l u h) h) p fun ρ1 env h1 s x H1 S1 E1 r1 P1 => ?_
    refine rd.of S1 E1 (Po.bind (r := fl env h1) P1 fun ρ2 h2 l y H2 _ x2 S2 r2 P2 => ?_)
    have e2 : y = l := r2
    subst e2
    refine rd.of S2 (E1.ex x2) (Po.bind (r := fh env h2) P2 fun ρ3 h3 u z H3 _ x3 S3 r3 P3 => ?_)
    have e3 : z = u := r3
    subst e3
    obtain ⟨d, e, k⟩ := P3.given
    exact ⟨ρ3, h3, s, d, S3, SlV.ex (x2.trans x3) r1, e, k⟩
end
end FL
namespace FL
open PySem PySem.Spec PyProof.Rows L2
def Rz.fl {α : Type} (r : Rz α) (env : En) (f : α → Hs → Fl) : Fl := match r with
  | .ok a h => f a h
  | .err x h => .err x env h
  | .bad => .bad
def PoS (K : PySem.W.Frag) (mg : Str → Option Value) (C : Fc) (Wx : WX) (D : Ends) (ρ : Fps) (H : Hp) : Fl → Prop
  | .next env' h' => ∀ (ρ' : Fps) (σ' : St) (H' : Hp), Stp (Mo C ρ) H (Mo C ρ') H' → SimH K C ρ' h' H' → EnvOk K C ρ' H' env' σ' → D.nx σ' H'
  | .ret s h' => ∀ (ρ' : Fps) (v : V) (H' : Hp), Stp (Mo C ρ) H (Mo C ρ') H' → SimH K C ρ' h' H' → SlV K C ρ' H' v s → D.rt v H'
  | .brk env' h' => ∀ (ρ' : Fps) (σ' : St) (H' : Hp), Stp (Mo C ρ) H (Mo C ρ') H' → SimH K C ρ' h' H' → EnvOk K C ρ' H' env' σ' → D.bk σ' H'
  | .cont env' h' => ∀ (ρ' : Fps) (σ' : St) (H' : Hp), Stp (Mo C ρ) H (Mo C ρ') H' → SimH K C ρ' h' H' → EnvOk K C ρ' H' env' σ' → D.ct σ' H'
  | .err x env' h' => ∀ (ρ' : Fps) (σ' : St) (H' : Hp) (cls : Value) (d : Option Addr), Stp (Mo C ρ) H (Mo C ρ') H' → SimH K C ρ' h' H' → EnvOk K C ρ' H' env' σ' → XnOk K mg H' (Mo C ρ') x cls d → Wx cls d σ' H'
  | .bad => False
def rdS (K : PySem.W.Frag) (mg : Str → Option Value) (C : Fc) (Wx : WX) (f : Sv) : TS := fun D σ H =>
  ∃ (ρ : Fps) (env : En) (h : Hs), SimH K C ρ h H ∧ EnvOk K C ρ H env σ ∧ PoS K mg C Wx D ρ H (f env h)
abbrev FS (X : Cx) (C : Fc) (Wx : WX) (st : Stmt) (f : Sv) : Prop := PS X st (rdS X.K X.mg C Wx f)
abbrev FSs (X : Cx) (C : Fc) (Wx : WX) (st : List Stmt) (f : Sv) : Prop := PSs X st (rdS X.K X.mg C Wx f)
section
variable {K : PySem.W.Frag} {mg : Str → Option Value} {C : Fc} {Wx : WX} {σ : St} {H : Hp} {D : Ends}
theorem PoS.stp {ρ ρ1 : Fps} {H1 : Hp} {r : Fl} (x : Stp (Mo C ρ) H (Mo C ρ1) H1) (p : PoS K mg C Wx D ρ H r) : PoS K mg C Wx D ρ1 H1 r := by
  cases r with
  | next e h => exact fun ρ' σ' H' s S E => p ρ' σ' H' (x.trans s) S E
  | ret e h => exact fun ρ' σ' H' s S E => p ρ' σ' H' (x.trans s) S E
  | brk e h => exact fun ρ' σ' H' s S E => p ρ' σ' H' (x.trans s) S E
  | cont e h => exact fun ρ' σ' H' s S E => p ρ' σ' H' (x.trans s) S E
  | err y e h => exact fun ρ' σ' H' c d s S E => p ρ' σ' H' c d (x.trans s) S E
  | bad => exact p
/-- an expression at the head of a statement -/
theorem rdS.bind {α β : Type} {r1 : Fps → Hp → β → α → Prop} {f : En → Hs → Rz α} {g : α → En → Hs → Fl} (p : rdS K mg C Wx (fun env h => (f env h).fl env fun a h => g a env h) D σ H) {R : β → Hp → Prop}
    (k : ∀ ρ1 env h1 a b H1, SimH K C ρ1 h1 H1 → EnvOk K C ρ1 H1 env σ → r1 ρ1 H1 b a → PoS K mg C Wx D ρ1 H1 (g a env h1) → R b H1) : rd K mg C Wx r1 f σ H R := by
  obtain ⟨ρ, env, h, S, E, P⟩ := p
  refine ⟨ρ, env, h, S, E, ?_⟩
  have P' : PoS K mg C Wx D ρ H ((f env h).fl env fun a h => g a env h) := P
  cases e : f env h with
  | ok a h1 =>
    intro ρ1 b H1 x S1 q
    rw [e] at P'
    exact k ρ1 env h1 a b H1 S1 (E.ex x) q (PoS.stp (r := g a env h1) x.stp P')
  | err y h1 =>
    rw [e] at P'
    exact fun ρ' H' cls d s S' q => P' ρ' σ H' cls d s.stp S' (E.ex s) q
  | bad => rw [e] at P'; exact P'
end
def sNil : Sv := fun env h => .next env h
def sSeq (f g : Sv) : Sv := fun env h => match f env h with
  | .next e h => g e h
  | r => r
def sExp (f : Ev) : Sv := fun env h => (f env h).fl env fun _ h => .next env h
def sRet (f : Ev) : Sv := fun env h => (f env h).fl env fun s h => .ret s h
def sIf (c : Tv) (f g : Sv) : Sv := fun env h => (c env h).fl env fun b h => if b = true then f env h else g env h
def sSet (i : Nat) (f : Ev) : Sv := fun env h => (f env h).fl env fun s h => .next (env.set i (some s)) h
def sNever : Sv := fun _ _ => .bad
section
variable {X : Cx} {C : Fc} {Wx : WX} {st : Stmt} {rest : List Stmt} {f g : Sv} {e : Expr} {fe : Ev} {pos : Pos}
theorem fss_nil : FSs X C Wx [] sNil := PSs.imp pss_nil fun D σ H ⟨ρ, env, h, S, E, P⟩ => P ρ σ H (Stp.refl _ _) S E
theorem fss_one (h : FS X C Wx st f) : FSs X C Wx [st] f := pss_one h
theorem fss_cons (h1 : FS X C Wx st f) (h2 : FSs X C Wx rest g) : FSs X C Wx (st :: rest) (sSeq f g) := PSs.imp (pss_cons h1 h2) fun D σ H ⟨ρ, env, h, S, E, P⟩ => by
  refine ⟨ρ, env, h, S, E, ?_⟩
  have P' : PoS X.K X.mg C Wx D ρ H (match f env h with
    | .next e h => g e h
    | r => r) := P
  cases q : f env h with
  | next e h1 =>
    rw [q] at P'
    exact fun ρ' σ' H' s S' E' => ⟨ρ', e, h1, S', E', PoS.stp (r := g e h1) s P'⟩
  | ret _ _ => rw [q] at P'; exact P'
  | brk _ _ => rw [q] at P'; exact P'
  | cont _ _ => rw [q] at P'; exact P'
  | err _ _ _ => rw [q] at P'; exact P'
  | bad => rw [q] at P'; exact P'
theorem fs_never : FS X C Wx st sNever := PS.imp ps_never fun D σ H ⟨ρ, env, h, S, E, P⟩ => P
theorem fs_exp (he : FE X C Wx e fe) (hs : swapsWith e none pos.line X.env = pure false := by rfl) : FS X C Wx (.Expr e pos) (sExp fe) := PS.imp (ps_expr he hs) fun D σ H p =>
  rdS.bind (f := fe) (g := fun _ env h => .next env h) p fun ρ1 env h1 a b H1 S1 E1 r1 P1 => P1 ρ1 σ H1 (Stp.refl _ _) S1 E1
theorem fs_ret (he : FE X C Wx e fe) : FS X C Wx (.Return (some e) pos) (sRet fe) := PS.imp (ps_ret he) fun D σ H p =>
  rdS.bind (f := fe) (g := fun s env h => .ret s h) p fun ρ1 env h1 a b H1 S1 E1 r1 P1 => P1 ρ1 b H1 (Stp.refl _ _) S1 r1
theorem fs_if {c : Expr} {a b : List Stmt} {tc : Tv} (hc : FT X C Wx c tc) (ha : FSs X C Wx a f) (hb : FSs X C Wx b g) : FS X C Wx (.If c a b pos) (sIf tc f g) := PS.imp (ps_if hc ha hb) fun D σ H p =>
  rdS.bind (f := tc) (g := fun b env h => if b = true then f env h else g env h) p fun ρ1 env h1 a b H1 S1 E1 r1 P1 => by
    have e : b = a := r1
    subst e
    cases b with
    | true => exact ⟨ρ1, env, h1, S1, E1, P1⟩
    | false => exact ⟨ρ1, env, h1, S1, E1, P1⟩
theorem fs_set {i : Nat} {x : Str} {pos' : Pos} (hN : X.N.Nodup) (hi : X.N[i]? = some x) (hx : Loc X.env.scope x) (he : FE X C Wx e fe) (hs : swapsWith e (some (.Name x pos')) pos.line X.env = pure false := by rfl) (hf : X.fn x = true ∨ X.env.scope.names.lookup x = some .local := by first | exact .inl rfl | exact .inr rfl | assumption) :
    FS X C Wx (.Assign [.Name x pos'] e pos) (sSet i fe) := PS.imp (ps_set hN hi hx he hs hf) fun D σ H p =>
  rdS.bind (f := fe) (g := fun s env h => .next (env.set i (some s)) h) p fun ρ1 env h1 a b H1 S1 E1 r1 P1 => P1 ρ1 _ H1 (Stp.refl _ _) S1 (E1.set r1 i)
end
inductive Tg where
  | nm (i : Nat)
  | tp (ts : List Tg)
mutual
def Tg.put : Tg → PyData → En → Option En
  | .nm i, d, env => some (env.set i (some (.val d)))
  | .tp ts, .tuple ds, env => Tg.puts ts ds env
  | .tp _, _, _ => none
def Tg.puts : List Tg → List PyData → En → Option En
  | [], [], env => some env
  | t :: ts, d :: ds, env => match Tg.put t d env with
    | some e => Tg.puts ts ds e
    | none => none
  | _, _, _ => none
def Tg.slots : Tg → List Nat
  | .nm i => [i]
  | .tp ts => Tg.slotss ts
def Tg.slotss : List Tg → List Nat
  | [] => []
  | t :: ts => Tg.slots t ++ Tg.slotss ts
def Tg.rd (K : PySem.W.Frag) : Tg → TG
  | .nm i => gName i
  | .tp ts => gTup K ts.length (Tg.rds K ts)
def Tg.rds (K : PySem.W.Frag) : List Tg → TGs
  | [] => gNil
  | t :: ts => gCons (Tg.rd K t) (Tg.rds K ts)
end
abbrev FG (X : Cx) (e : Expr) (t : Tg) : Prop := PG X e (t.rd X.K)
abbrev FGs (X : Cx) (es : List Expr) (ts : List Tg) : Prop := PGs X es (Tg.rds X.K ts)
section
variable {X : Cx} {pos : Pos}
theorem fg_nm {i : Nat} {x : Str} (hN : X.N.Nodup) (hi : X.N[i]? = some x) (hx : Loc X.env.scope x) (hf : X.fn x = true ∨ X.env.scope.names.lookup x = some .local := by first | exact .inl rfl | exact .inr rfl | assumption) : FG X (.Name x pos) (.nm i) := pg_name hN hi hx hf
theorem fgs_nil : FGs X [] [] := pgs_nil
theorem fgs_cons {e : Expr} {es : List Expr} {t : Tg} {ts : List Tg} (h1 : FG X e t) (h2 : FGs X es ts) (hs : (assignEach (e :: es) X.env).map (·.2) = assign e X.env :: (assignEach es X.env).map (·.2) := by rfl) : FGs X (e :: es) (t :: ts) := pgs_cons h1 h2 hs
theorem fg_tp {es : List Expr} {k : Nat} {ts : List Tg} (hc : X.calm = true) (h : FGs X es ts) (hn : (assignEach es X.env).length = ts.length := by rfl) (hst : (assignEach es X.env).findIdx? (·.1) = none := by rfl) : FG X (.Tuple es k pos) (.tp ts) := pg_tup hc h hn hst
end
theorem wipe_get (σ : St) (k : Nat) : ∀ vs : List Nat, (wipe σ vs)[k]? = if k ∈ vs then (σ[k]?).map (fun _ => none) else σ[k]?
  | [] => by simp [wipe]
  | v :: vs => by
    show ((wipe σ vs).set v none)[k]? = _
    rw [List.getElem?_set]
    by_cases h : v = k
    · subst h
      rw [if_pos rfl, wipe_length, if_pos List.mem_cons_self]
      by_cases hv : v < σ.length
      · rw [if_pos hv, List.getElem?_eq_getElem hv]; rfl
      · rw [if_neg hv, List.getElem?_eq_none (by omega)]; rfl
    · rw [if_neg h, wipe_get σ k vs]
      by_cases hk : k ∈ vs
      · rw [if_pos hk, if_pos (List.mem_cons_of_mem _ hk)]
      · rw [if_neg hk, if_neg (fun z => by
          rcases List.mem_cons.mp z with z | z
          · exact h z.symm
          · exact hk z)]
theorem wipe_set {σ : St} {i : Nat} {o : Option V} {vs : List Nat} (h : i ∈ vs) : wipe (σ.set i o) vs = wipe σ vs := by
  refine List.ext_getElem? fun k => ?_
  rw [wipe_get, wipe_get]
  by_cases hk : k ∈ vs
  · rw [if_pos hk, if_pos hk]
    by_cases e : i = k
    · subst e
      rw [List.getElem?_set, if_pos rfl]
      by_cases hl : i < σ.length
      · rw [if_pos hl, List.getElem?_eq_getElem hl]; rfl
      · rw [if_neg hl, List.getElem?_eq_none (by omega)]
    · rw [List.getElem?_set_ne e]
  · rw [if_neg hk, if_neg hk]
    have : i ≠ k := fun z => hk (z ▸ h)
    rw [List.getElem?_set_ne this]
/-- what a target does to the slots -/
structure Put (K : PySem.W.Frag) (H : Hp) (M : Ms) (sl : List Nat) (env env' : En) (σ σ' : St) : Prop where
  wipe : ∀ vs : List Nat, (∀ i ∈ sl, i ∈ vs) → L2.wipe σ' vs = L2.wipe σ vs
  env : ∀ (C : Fc) (ρ : Fps), M = Mo C ρ → EnvOk K C ρ H env σ → EnvOk K C ρ H env' σ'
mutual
theorem Tg.ok {K : PySem.W.Frag} {H : Hp} {M : Ms} : ∀ (t : Tg) (v : V) (d : PyData) (σ : St) (env env' : En) (Q : St → Hp → Prop), Rp K H M v d → t.put d env = some env' → (∀ σ', Put K H M t.slots env env' σ σ' → Q σ' H) → t.rd K v σ H Q
  | .nm i, v, d, σ, env, env', Q, r, e, k => by
    have e' : some (env.set i (some (.val d))) = some env' := by simpa [Tg.put] using e
    cases e'
    show gName i v σ H Q
    refine k (σ.set i (some v)) ⟨fun vs h => wipe_set (h i (by simp [Tg.slots])), fun C ρ hM E => ?_⟩
    subst hM
    exact E.set (s := .val d) r i
  | .tp ts, v, d, σ, env, env', Q, r, e, k => by
    cases d with
    | tuple ds =>
      have e' : Tg.puts ts ds env = some env' := by simpa [Tg.put] using e
      cases r with
      | tup q ra =>
        have hl : ds.length = ts.length := Tg.puts_len ts ds env env' e'
        exact ⟨_, _, rfl, q.sq, by rw [ra.length]; exact hl, Tg.oks ts _ ds σ env env' Q ra e' fun σ' p => k σ' (by simpa [Tg.slots] using p)⟩
    | none => simp [Tg.put] at e
    | bool _ => simp [Tg.put] at e
    | int _ => simp [Tg.put] at e
    | str _ => simp [Tg.put] at e
    | list _ => simp [Tg.put] at e
    | dict _ => simp [Tg.put] at e
theorem Tg.oks {K : PySem.W.Frag} {H : Hp} {M : Ms} : ∀ (ts : List Tg) (vs : List V) (ds : List PyData) (σ : St) (env env' : En) (Q : St → Hp → Prop), RpAll K H M vs ds → Tg.puts ts ds env = some env' → (∀ σ', Put K H M (Tg.slotss ts) env env' σ σ' → Q σ' H) → Tg.rds K ts vs σ H Q
  | [], _, [], σ, env, env', Q, r, e, k => by
    cases r
    have e' : some env = some env' := by simpa [Tg.puts] using e
    cases e'
    exact ⟨rfl, k σ ⟨fun _ _ => rfl, fun _ _ _ E => E⟩⟩
  | t :: ts, _, d :: ds, σ, env, env', Q, r, e, k => by
    cases r with
    | cons r1 r2 =>
      cases q : Tg.put t d env with
      | none => simp [Tg.puts, q] at e
      | some e1 =>
        have e2 : Tg.puts ts ds e1 = some env' := by simpa [Tg.puts, q] using e
        refine ⟨_, _, rfl, Tg.ok t _ d σ env e1 _ r1 q fun σ1 p1 => Tg.oks ts _ ds σ1 e1 env' Q r2 e2 fun σ2 p2 => k σ2 ⟨fun vs h => ?_, fun C ρ hM E => p2.env C ρ hM (p1.env C ρ hM E)⟩⟩
        rw [p2.wipe vs fun i m => h i (by simp [Tg.slotss, m]), p1.wipe vs fun i m => h i (by simp [Tg.slotss, m])]
  | [], _, _ :: _, _, _, _, _, _, e, _ => by simp [Tg.puts] at e
  | _ :: _, _, [], _, _, _, _, _, e, _ => by simp [Tg.puts] at e
theorem Tg.puts_len : ∀ (ts : List Tg) (ds : List PyData) (env env' : En), Tg.puts ts ds env = some env' → ds.length = ts.length
  | [], [], _, _, _ => rfl
  | t :: ts, d :: ds, env, env', e => by
    cases q : Tg.put t d env with
    | none => simp [Tg.puts, q] at e
    | some e1 =>
      have e2 : Tg.puts ts ds e1 = some env' := by simpa [Tg.puts, q] using e
      rw [List.length_cons, List.length_cons, Tg.puts_len ts ds e1 env' e2]
  | [], _ :: _, _, _, e => by simp [Tg.puts] at e
  | _ :: _, [], _, _, e => by simp [Tg.puts] at e
end
/-- target = value -/
def sAsg (f : Ev) (t : Tg) : Sv := fun env h => (f env h).fl env fun s h => match s with
  | .val d => match t.put d env with
    | some e => .next e h
    | none => .bad
  | _ => .bad
section
variable {X : Cx} {C : Fc} {Wx : WX} {tg e : Expr} {fe : Ev} {t : Tg} {pos : Pos}
theorem fs_asg (he : FE X C Wx e fe) (hg : FG X tg t) (hs : swapsWithSole [tg] e pos.line X.env = pure false := by rfl) (hw : swappedStores [tg] e X.env = pure none := by rfl)
    (h1 : (assignEach [tg] X.env).map (·.2) = [assign tg X.env] := by rfl) : FS X C Wx (.Assign [tg] e pos) (sAsg fe t) := PS.imp (ps_asg he hg hs hw h1) fun D σ H p => by
  refine rdS.bind (f := fe) (g := fun s env h => match s with
    | .val d => match t.put d env with
      | some e => (.next e h : Fl)
      | none => .bad
    | _ => .bad) p fun ρ1 env h1 a b H1 S1 E1 r1 P1 => ?_
  cases a with
  | loc n => exact P1.elim
  | inn n i => exact P1.elim
  | exn x => exact P1.elim
  | pr _ _ => exact P1.elim
  | val d =>
    cases q : t.put d env with
    | none =>
      have P2 : PoS X.K X.mg C Wx D ρ1 H1 (match t.put d env with
        | some e => (.next e h1 : Fl)
        | none => .bad) := P1
      rw [q] at P2
      exact P2.elim
    | some e1 =>
      have P2 : PoS X.K X.mg C Wx D ρ1 H1 (match t.put d env with
        | some e => (.next e h1 : Fl)
        | none => .bad) := P1
      rw [q] at P2
      exact Tg.ok t b d σ env e1 _ r1 q fun σ' p => P2 ρ1 σ' H1 (Stp.refl _ _) S1 (p.env C ρ1 rfl E1)
/-- a, b = x, y (two local names) -/
def sPar (i j : Nat) (f : Av) : Sv := fun env h => (f env h).fl env fun ss h => match ss with
  | [s, t] => .next ((env.set i (some s)).set j (some t)) h
  | _ => .bad
theorem fs_par {i j : Nat} {x y : Str} {a b : Expr} {f : Av} {px py pt : Pos} {kt k2 pt2} (hc : X.calm = true) (hN : X.N.Nodup) (hi : X.N[i]? = some x) (hj : X.N[j]? = some y) (hij : i ≠ j)
    (hx : X.env.scope.names.lookup x = some .local) (hy : X.env.scope.names.lookup y = some .local) (ha : FA X C Wx [a, b] f)
    (hw : swappedStores [.Tuple [.Name x px, .Name y py] kt pt] (.Tuple [a, b] k2 pt2) X.env = pure (some [x, y]))
    (hs : swapsWithSole [.Tuple [.Name x px, .Name y py] kt pt] (.Tuple [a, b] k2 pt2) pos.line X.env = pure false := by rfl) :
    FS X C Wx (.Assign [.Tuple [.Name x px, .Name y py] kt pt] (.Tuple [a, b] k2 pt2) pos) (sPar i j f) := PS.imp (ps_par hc hN hi hj hij hx hy ha hw hs) fun D σ H p => by
  refine rdS.bind (f := f) (g := fun ss env h => match ss with
    | [s, t] => (.next ((env.set i (some s)).set j (some t)) h : Fl)
    | _ => .bad) p fun ρ1 env h1 a b H1 S1 E1 r1 P1 => ?_
  match a, r1, P1 with
  | [s, t], r1, P1 =>
    obtain ⟨v, w, rfl, rv, rw'⟩ := SlVs.two r1
    exact ⟨v, w, rfl, P1 ρ1 _ H1 (Stp.refl _ _) S1 ((E1.set rv i).set rw' j)⟩
  | [], _, P1 => exact P1.elim
  | [_], _, P1 => exact P1.elim
  | _ :: _ :: _ :: _, _, P1 => exact P1.elim
def sPar3 (i j l : Nat) (f : Av) : Sv := fun env h => (f env h).fl env fun ss h => match ss with
  | [s, t, u] => .next (((env.set i (some s)).set j (some t)).set l (some u)) h
  | _ => .bad
end
end FL
namespace FL
open PySem PySem.Spec PyProof.Rows L2
/-- the iterator gives the items ds, one by one, as long as nothing but M is changed -/
structure Gvs (K : PySem.W.Frag) (J : It) (ds : List PyData) (M : Ms) (H0 : Hp) : Prop where
  go : ∀ (M' : Ms) (H : Hp) (i : Nat) (d : PyData), Stp M H0 M' H → ds[i]? = some d → J.go i H
  yld : ∀ (M' : Ms) (H : Hp) (i : Nat) (d : PyData) (x : V) (H' : Hp), Stp M H0 M' H → ds[i]? = some d → J.yld i H x H' → (H' = H ∧ Rp K H M' x d) ∨ (∃ T vs es, H T = none ∧ H' = upd H T (.tup vs) ∧ x = .ref T ∧ d = .tuple es ∧ RpAll K H M' vs es) ∨ (H' = H ∧ ∃ (b : Addr) (k : List Int), x = .ref b ∧ H b = some (.tup (k.map V.int)) ∧ d = .tuple (k.map .int))
  stop : ∀ (M' : Ms) (H : Hp) (i : Nat), Stp M H0 M' H → ds.length ≤ i → J.stop i H
abbrev relI (K : PySem.W.Frag) (C : Fc) : Fps → Hp → It → List PyData → Prop := fun ρ H J ds => Gvs K J ds (Mo C ρ) H
abbrev FI (X : Cx) (C : Fc) (Wx : WX) (tg iter : Expr) (f : En → Hs → Rz (List PyData)) : Prop := PI X tg iter (rd X.K X.mg C Wx (relI X.K C) f)
theorem PI.imp {X : Cx} {tg e : Expr} {t t' : TI} (h : PI X tg e t) (i : ∀ σ H Q, t' σ H Q → t σ H Q) : PI X tg e t' := ⟨fun pins s σ H Q I q => h.run pins s σ H Q I (i σ H Q q)⟩
theorem PI.two {X : Cx} {tg e : Expr} {t t' u : TI} (h : PI X tg e t) (h' : PI X tg e t') (i : ∀ σ H Q, u σ H Q → t σ H Q ∨ t' σ H Q) : PI X tg e u := ⟨fun pins s σ H Q I q => by
  rcases i σ H Q q with z | z
  · exact h.run pins s σ H Q I z
  · exact h'.run pins s σ H Q I z⟩
theorem Gvs.step {K : PySem.W.Frag} {C : Fc} {J : It} {ds : List PyData} {M : Ms} {H0 : Hp} (G : Gvs K J ds M H0) {ρ : Fps} {h : Hs} {H H' : Hp} {i : Nat} {d : PyData} {x : V} (st : Stp M H0 (Mo C ρ) H) (S : SimH K C ρ h H) (e : ds[i]? = some d) (y : J.yld i H x H') :
    SimH K C ρ h H' ∧ Ex C ρ H ρ H' ∧ Rp K H' (Mo C ρ) x d := by
  rcases G.yld _ H i d x H' st e y with ⟨rfl, r⟩ | ⟨T, vs, es, hT, rfl, rfl, rfl, r⟩ | ⟨rfl, b, k, rfl, hb, rfl⟩
  · exact ⟨S, Ex.refl _ _ _, r⟩
  · exact ⟨S.laid hT, Ex.laid S hT, Rp.newTup S hT r⟩
  · refine ⟨S, Ex.refl _ _ _, .tup (.inl ⟨.inl hb, S.free hb⟩) ?_⟩
    clear hb y e
    induction k with
    | nil => exact .nil
    | cons i k ih => exact .cons (.int i) ih
/-- the items of a list or tuple that is data -/
def srcSeq (f : Ev) : En → Hs → Rz (List PyData) := fun env h => (f env h).bind fun s h => match s with
  | .val (.list ds) => .ok ds h
  | .val (.tuple ds) => .ok ds h
  | _ => .bad
section
variable {X : Cx} {C : Fc} {Wx : WX} {tg l : Expr} {f : Ev}
theorem gvs_list {K : PySem.W.Frag} {H : Hp} {M : Ms} {a : Addr} {xs : List V} {ds : List PyData} (q : QL K H M a xs) (r : RpAll K H M xs ds) : Gvs K (Itl K a) ds M H where
  go := fun M' H' i d s e => by
    obtain ⟨v, ev, _⟩ := r.get e
    exact ⟨xs, v, (q.stp s).sq, ev⟩
  yld := fun M' H' i d x H'' s e y => by
    obtain ⟨rfl, hy⟩ := y
    obtain ⟨v, ev, rv⟩ := r.get e
    have := hy xs (q.stp s).sq
    rw [ev] at this; cases this
    exact .inl ⟨rfl, rv.stp s⟩
  stop := fun M' H' i s hl => ⟨xs, (q.stp s).sq, by rw [r.length]; exact hl⟩
theorem gvs_tup {K : PySem.W.Frag} {H : Hp} {M : Ms} {a : Addr} {xs : List V} {ds : List PyData} (q : QT K H M a xs) (r : RpAll K H M xs ds) : Gvs K (Itt K a) ds M H where
  go := fun M' H' i d s e => by
    obtain ⟨v, ev, _⟩ := r.get e
    exact ⟨xs, v, (q.stp s).sq, ev⟩
  yld := fun M' H' i d x H'' s e y => by
    obtain ⟨rfl, hy⟩ := y
    obtain ⟨v, ev, rv⟩ := r.get e
    have := hy xs (q.stp s).sq
    rw [ev] at this; cases this
    exact .inl ⟨rfl, rv.stp s⟩
  stop := fun M' H' i s hl => ⟨xs, (q.stp s).sq, by rw [r.length]; exact hl⟩
theorem fi_seq (ha : FE X C Wx l f) : FI X C Wx tg l (srcSeq f) := by
  refine PI.two (pi_list ha) (pi_tup ha) fun σ H R ⟨ρ, env, h, S, E, P⟩ => ?_
  have P' : Po X.K X.mg C Wx σ ρ H (relI X.K C) ((f env h).bind fun s h => match s with
    | .val (.list ds) => (.ok ds h : Rz (List PyData))
    | .val (.tuple ds) => .ok ds h
    | _ => .bad) R := P
  cases e : f env h with
  | bad => rw [e] at P'; exact P'.elim
  | err y h1 => rw [e] at P'; exact .inl ⟨ρ, env, h, S, E, by rw [e]; exact P'⟩
  | ok s h1 =>
    rw [e] at P'
    match s, P' with
    | .val (.list ds), P' =>
      refine .inl ⟨ρ, env, h, S, E, ?_⟩
      rw [e]
      intro ρ1 v H1 x1 S1 r1
      cases (show Rp X.K H1 (Mo C ρ1) v (.list ds) from r1) with
      | lst q ra => exact ⟨_, rfl, ⟨_, q.sq⟩, P' ρ1 _ H1 x1 S1 (gvs_list q ra)⟩
    | .val (.tuple ds), P' =>
      refine .inr ⟨ρ, env, h, S, E, ?_⟩
      rw [e]
      intro ρ1 v H1 x1 S1 r1
      cases (show Rp X.K H1 (Mo C ρ1) v (.tuple ds) from r1) with
      | tup q ra => exact ⟨_, rfl, ⟨_, q.sq⟩, P' ρ1 _ H1 x1 S1 (gvs_tup q ra)⟩
    | .val .none, P' => exact P'.elim
    | .val (.bool _), P' => exact P'.elim
    | .val (.int _), P' => exact P'.elim
    | .val (.str _), P' => exact P'.elim
    | .val (.dict _), P' => exact P'.elim
    | .loc _, P' => exact P'.elim
    | .inn _ _, P' => exact P'.elim
    | .exn _, P' => exact P'.elim
/-- range(n), range(a, b) -/
def upTo (lo : Int) (n : Nat) : List PyData := (List.range n).map fun (k : Nat) => .int (lo + (k : Int))
def rngOk (i : Int) : Bool := decide (-(2 ^ 62) ≤ i ∧ i < 2 ^ 62)
def srcRng1 (f : Av) : En → Hs → Rz (List PyData) := fun env h => (f env h).bind fun ss h => match ss with
  | [.val (.int j)] => if rngOk j then .ok (upTo 0 j.toNat) h else .bad
  | _ => .bad
def srcRng2 (f : Av) : En → Hs → Rz (List PyData) := fun env h => (f env h).bind fun ss h => match ss with
  | [.val (.int i), .val (.int j)] => if rngOk i && rngOk j then .ok (upTo i (j - i).toNat) h else .bad
  | _ => .bad
theorem upTo_get {lo : Int} {n i : Nat} {d : PyData} (e : (upTo lo n)[i]? = some d) : i < n ∧ d = .int (lo + i) := by
  unfold upTo at e
  rw [List.getElem?_map] at e
  by_cases h : i < n
  · rw [List.getElem?_range h] at e
    cases e
    exact ⟨h, rfl⟩
  · rw [List.getElem?_eq_none (by rw [List.length_range]; omega)] at e
    cases e
theorem upTo_len (lo : Int) (n : Nat) : (upTo lo n).length = n := by unfold upTo; simp
theorem gvs_rng {K : PySem.W.Frag} {H : Hp} {M : Ms} (lo : Int) (n : Nat) : Gvs K (Itr lo n) (upTo lo n) M H where
  go := fun M' H' i d s e => (upTo_get e).1
  yld := fun M' H' i d x H'' s e y => by
    obtain ⟨rfl, rfl⟩ := y
    obtain ⟨_, rfl⟩ := upTo_get e
    exact .inl ⟨rfl, .int _⟩
  stop := fun M' H' i s hl => by
    rw [upTo_len] at hl
    exact hl
variable {a b : Expr} {fa : Av} {p pos : Pos}
theorem fi_rng1 (hg : Gl X "range") (hm : X.mg "range" = none) (ha : FA X C Wx [a] fa) (hs : starEach [a] X.env = [(false, eval a X.env)] := by rfl) : FI X C Wx tg (.Call (.Name "range" p) [a] [] pos) (srcRng1 fa) := PI.imp (pi_range1 hg hm ha hs) fun σ H R pp => by
  refine rd.bind (f := fa) (g := fun ss env h => match ss with
    | [.val (.int j)] => if rngOk j then (.ok (upTo 0 j.toNat) h : Rz (List PyData)) else .bad
    | _ => .bad) pp fun ρ1 env h1 ss vs H1 S1 E1 r1 P1 => ?_
  split at P1
  · rename_i j
    obtain ⟨x, rfl, rx⟩ := SlVs.one r1
    cases (show Rp X.K H1 (Mo C ρ1) x (.int j) from rx)
    split at P1
    · rename_i c
      have c' := of_decide_eq_true c
      exact ⟨j, rfl, c'.1, c'.2, P1 ρ1 _ H1 (Ex.refl _ _ _) S1 (gvs_rng 0 j.toNat)⟩
    · exact P1.elim
  · exact P1.elim
end
def cutE (n : Nat) (env : En) : En := env.map fun s => match s with
  | some (.loc k) => if k < n then some (.loc k) else none
  | some (.inn k i) => if k < n then some (.inn k i) else none
  | some (.pr _ _) => none
  | s => s
theorem cutE_ok {K : PySem.W.Frag} {C : Fc} {ρ : Fps} {H : Hp} {env : En} {σ : St} {n : Nat} (E : EnvOk K C ρ H env σ) : EnvOk K C (ρ.take n) H (cutE n env) σ := by
  refine ⟨by rw [← E.len]; unfold cutE; simp, fun i s e => ?_⟩
  unfold cutE at e
  rw [List.getElem?_map] at e
  cases q : env[i]? with
  | none => rw [q] at e; cases e
  | some o =>
    rw [q] at e
    cases o with
    | none => cases (show some (none : Slot) = some (some s) from e)
    | some t =>
      obtain ⟨v, e1, r⟩ := E.at_ i t q
      cases t with
      | val d =>
        have e' : some (some (Sl.val d)) = some (some s) := e
        cases e'
        exact ⟨v, e1, Rp.fewer (fun _ => Mo.take) r⟩
      | loc k =>
        have e' : some (if k < n then some (Sl.loc k) else none) = some (some s) := e
        split at e'
        · rename_i hk
          cases e'
          obtain ⟨fp, a, e2, e3, e4⟩ := r
          exact ⟨v, e1, fp, a, by rw [List.getElem?_take, if_pos hk]; exact e2, e3, e4⟩
        · cases e'
      | inn k j =>
        have e' : some (if k < n then some (Sl.inn k j) else none) = some (some s) := e
        split at e'
        · rename_i hk
          cases e'
          obtain ⟨fp, a, e2, e3, e4⟩ := r
          exact ⟨v, e1, fp, a, by rw [List.getElem?_take, if_pos hk]; exact e2, e3, e4⟩
        · cases e'
      | exn x =>
        have e' : some (some (Sl.exn x)) = some (some s) := e
        cases e'
        exact ⟨v, e1, r⟩
      | pr m d =>
        have e' : some (none : Slot) = some (some s) := e
        cases e'
def loopF (t : Tg) (body : Sv) (n : Nat) : List PyData → En → Hs → Fl
  | [], env, h => .next env h
  | d :: ds, env, h => match t.put d env with
    | none => .bad
    | some e1 => match body e1 h with
      | .next e h => loopF t body n ds (cutE n e) (h.take n)
      | .cont e h => loopF t body n ds (cutE n e) (h.take n)
      | .brk e h => .next (cutE n e) (h.take n)
      | r => r
def sFor (src : En → Hs → Rz (List PyData)) (t : Tg) (body : Sv) : Sv := fun env h => (src env h).fl env fun ds h => loopF t body h.length ds env h
section
variable {X : Cx} {C : Fc} {Wx : WX} {tg iter c : Expr} {body : List Stmt} {src : En → Hs → Rz (List PyData)} {t : Tg} {fb : Sv} {tc : Tv} {pos : Pos}
theorem fs_for (hp : PassesOwn (model X.prog X.w) X.A X.env X.xe) (hc : X.calm = true) (hi : FI X C Wx tg iter src) (hg : FG X tg t) (hb : FSs X C Wx body fb)
    (hs : ∀ x, foldedSetIterable iter X.env x = pure x := by intro _; rfl) : FS X C Wx (.For tg iter body [] pos) (sFor src t fb) := PS.imp (ps_for hp hc hi hg hb hs) fun D σ H p => by
  refine rdS.bind (f := src) (g := fun ds env h => loopF t fb h.length ds env h) p fun ρ1 env1 h1 ds J H1 S1 E1 G P1 => ?_
  have hW0 : C.W.length ≤ h1.length := S1.wlen
  refine ⟨fun i m σ2 H2 => m = ds.length - i ∧ ∃ ρ2 env2 h2, SimH X.K C ρ2 h2 H2 ∧ EnvOk X.K C ρ2 H2 env2 σ2 ∧ Stp (Mo C ρ1) H1 (Mo C ρ2) H2 ∧ PoS X.K X.mg C Wx D ρ2 H2 (loopF t fb h1.length (ds.drop i) env2 h2),
    ⟨ds.length - 0, rfl, ρ1, env1, h1, S1, E1, Stp.refl _ _, P1⟩, fun i m σ2 H2 hW => ?_⟩
  obtain ⟨hm, ρ2, env2, h2, S2, E2, st, P2⟩ := hW
  by_cases hi' : i < ds.length
  · have ed : ds.drop i = ds[i] :: ds.drop (i + 1) := List.drop_eq_getElem_cons hi'
    have ei : ds[i]? = some ds[i] := List.getElem?_eq_getElem hi'
    rw [ed] at P2
    refine .inr ⟨G.go _ H2 i _ st ei, fun σ' H' => ∃ ρ3 env3 h3, SimH X.K C ρ3 h3 H' ∧ EnvOk X.K C ρ3 H' env3 σ' ∧ Stp (Mo C ρ1) H1 (Mo C ρ3) H' ∧ PoS X.K X.mg C Wx D ρ3 H' (loopF t fb h1.length (ds.drop (i + 1)) env3 h3), fun σ' H' hN => ?_, fun x H' y => ?_⟩
    · obtain ⟨ρ3, env3, h3, S3, E3, st3, P3⟩ := hN
      exact ⟨ds.length - (i + 1), by omega, rfl, ρ3, env3, h3, S3, E3, st3, P3⟩
    · obtain ⟨S3, x3, r3⟩ := G.step st S2 ei y
      have P3 : PoS X.K X.mg C Wx D ρ2 H2 (match t.put ds[i] env2 with
        | none => .bad
        | some e1 => match fb e1 h2 with
          | .next e h => loopF t fb h1.length (ds.drop (i + 1)) (cutE h1.length e) (h.take h1.length)
          | .cont e h => loopF t fb h1.length (ds.drop (i + 1)) (cutE h1.length e) (h.take h1.length)
          | .brk e h => .next (cutE h1.length e) (h.take h1.length)
          | r => r) := P2
      cases q : t.put ds[i] env2 with
      | none => rw [q] at P3; exact P3.elim
      | some e1 =>
        rw [q] at P3
        dsimp only at P3
        refine Tg.ok t x ds[i] σ2 env2 e1 _ r3 q fun σ3 pt => ⟨ρ2, e1, h2, S3, pt.env C ρ2 rfl (E2.ex x3), ?_⟩
        cases z : fb e1 h2 with
        | next e h =>
          rw [z] at P3
          exact fun ρ' σ' H'' s S E => ⟨ρ'.take h1.length, _, _, S.take _ hW0, cutE_ok E, (((st.trans x3.stp).trans s).trans (Stp.take _)), PoS.stp (r := loopF t fb h1.length (ds.drop (i + 1)) (cutE h1.length e) (h.take h1.length)) ((x3.stp.trans s).trans (Stp.take _)) P3⟩
        | cont e h =>
          rw [z] at P3
          exact fun ρ' σ' H'' s S E => ⟨ρ'.take h1.length, _, _, S.take _ hW0, cutE_ok E, (((st.trans x3.stp).trans s).trans (Stp.take _)), PoS.stp (r := loopF t fb h1.length (ds.drop (i + 1)) (cutE h1.length e) (h.take h1.length)) ((x3.stp.trans s).trans (Stp.take _)) P3⟩
        | brk e h =>
          rw [z] at P3
          exact fun ρ' σ' H'' s S E => P3 (ρ'.take h1.length) σ' H'' ((x3.stp.trans s).trans (Stp.take _)) (S.take _ hW0) (cutE_ok E)
        | ret s h => rw [z] at P3; exact PoS.stp (r := .ret s h) (D := D) x3.stp P3
        | err y e h => rw [z] at P3; exact PoS.stp (r := .err y e h) (D := D) x3.stp P3
        | bad => rw [z] at P3; exact P3.elim
  · have ed : ds.drop i = [] := List.drop_eq_nil_of_le (by omega)
    rw [ed] at P2
    exact .inl ⟨G.stop _ H2 i st (by omega), P2 ρ2 σ2 H2 (Stp.refl _ _) S2 E2⟩
end
abbrev GM := Sl → List Sl → Hs → Option (PyData × Hs)
def rdM (K : PySem.W.Frag) (C : Fc) (m : GM) : V → List V → Hp → VK → Prop := fun x xs H Q => ∃ ρ h s ss d h', SimH K C ρ h H ∧ SlV K C ρ H x s ∧ SlVs K C ρ H xs ss ∧ m s ss h = some (d, h') ∧
  ∀ v H', Ex C ρ H ρ H' → SimH K C ρ h' H' → Rp K H' (Mo C ρ) v d → Q v H'
def eMt (m : GM) (f : Ev) (fa : Av) : Ev := fun env h => (f env h).bind fun s h => if (litems s h).isSome = true then (fa env h).bind fun ss h => match m s ss h with
  | some (d, h') => .ok (.val d) h'
  | none => .bad else .bad
def mAppend : GM := fun s ss h => match s, ss with
  | .loc n, [.val d] => match h[n]? with
    | some (.lst ds) => if ds.length < 16777216 then some (.none, h.set n (.lst (ds ++ [d]))) else none
    | _ => none
  | _, _ => none
theorem MtR.imp {X : Cx} {id : String} {r r' : V → List V → Hp → VK → Prop} (h : MtR X id r) (i : ∀ x xs H Q, r' x xs H Q → r x xs H Q) : MtR X id r' := fun pins s σ H x xs v us Q I rx rs q => h pins s σ H x xs v us Q I rx rs (i _ _ _ _ q)
section
variable {X : Cx} {C : Fc} {Wx : WX} {o e : Expr} {es : List Expr} {f : Ev} {fa : Av} {name : Str} {apos cpos : Pos} {id : String} {m : GM}
theorem m_append : MtR X "list.append" (rdM X.K C mAppend) := MtR.imp mt_append fun x xs H Q ⟨ρ, h, s, ss, d, h', S, r1, r2, e, k⟩ => by
  unfold mAppend at e
  split at e
  · rename_i n d0
    split at e
    · rename_i ds e3
      split at e
      · rename_i hl
        cases e
        obtain ⟨fp, a, e1, e2, rfl⟩ := r1
        obtain ⟨y, rfl, ry⟩ := SlVs.one r2
        obtain ⟨e1', vs, q, ra⟩ := S.lst e1 e2 e3
        have W := S.write (ob := .lst (ds ++ [d0])) (o := .lst (vs ++ [y])) e1' ⟨a, _, rfl, upd_same, ?_⟩
        · exact ⟨a, vs, y, rfl, rfl, q, by rw [ra.length, sizeLine_eq]; exact hl, k .non _ W.2 W.1 .non⟩
        · have st : Stp (Mo C ρ) H (Mo C ρ) (upd H a (.lst (vs ++ [y]))) := ⟨keepE fun b u z nm => by
            have : b ≠ a := fun w => nm (w ▸ .inl (flat_at e1' (by simp)))
            rw [upd_ne this]; exact z, fun _ mm => .inl mm⟩
          exact (ra.stp st).append (.cons (Rp.stp st ry) .nil)
      · cases e
    · cases e
  · cases e
theorem fe_mt (slot : PySem.Slot "list" name id) (hty : typeOf (.builtin id) = pure (.type "method_descriptor")) (hm : MtR X id (rdM X.K C m)) (ho : FE X C Wx o f) (ha : FA X C Wx (e :: es) fa)
    (hbase : attributeBase o name X.env (eval o X.env) = eval o X.env := by rfl)
    (hfew : ((backTo cpos (starEach (e :: es) X.env)).all (fun x => !x.1) && (backToKw cpos (keywordEach [] X.env)).all (fun x => x.1.isSome)
      && decide ((e :: es).length + ([] : List Keyword).length + (if ([] : List Keyword).isEmpty then 0 else 1) < 30)) = true := by rfl)
    (hline : (apos.endLine == cpos.line) = true := by rfl) (hs : starEach (e :: es) X.env = (false, eval e X.env) :: starEach es X.env := by rfl) (hplain : (backTo cpos (starEach es X.env)).any (·.1) = false := by rfl) :
    FE X C Wx (.Call (.Attribute o name apos) (e :: es) [] cpos) (eMt m f fa) := PE.imp (pe_bm PySem.F.plainAttrs_list slot hty hm ho ha hbase hfew hline hs hplain) fun σ H Q p => by
  refine rd.bind (f := f) (g := fun s env h => if (litems s h).isSome = true then (fa env h).bind fun ss h => match m s ss h with
    | some (d, h') => (.ok (.val d) h' : Rz Sl)
    | none => .bad else .bad) p fun ρ1 env h1 s x H1 S1 E1 r1 P1 => ?_
  split at P1
  · rename_i hl
    obtain ⟨ds, el⟩ := Option.isSome_iff_exists.mp hl
    obtain ⟨a, vs, rfl, sq, ra⟩ := litems_rel S1 r1 el
    refine ⟨.inl ⟨rfl, _, sq⟩, rd.of S1 E1 (Po.bind (r := fa env h1) P1 fun ρ2 h2 ss xs H2 _ x2 S2 r2 P2 => ?_)⟩
    cases q : m s ss h2 with
    | none => rw [q] at P2; exact P2.elim
    | some dh =>
      obtain ⟨d, h'⟩ := dh
      rw [q] at P2
      exact ⟨ρ2, h2, s, ss, d, h', S2, SlV.ex x2 r1, r2, q, fun v H' x S r => P2 ρ2 v H' x S r⟩
  · exact P1.elim
def putAt (s t u : Sl) (h : Hs) : Option Hs := match s, t, u with
  | .loc n, .val (.int i), .val d => match h[n]? with
    | some (.lst ds) => match ixN ds.length i with
      | some j => some (h.set n (.lst (ds.set j d)))
      | none => none
    | _ => none
  | _, _, _ => none
def sPut (fo fi fe : Ev) : Sv := fun env h => (fe env h).fl env fun u h => (fo env h).fl env fun s h => (fi env h).fl env fun t h => match putAt s t u h with
  | some h' => .next env h'
  | none => .bad
theorem put_rel {K : PySem.W.Frag} {ρ : Fps} {h h' : Hs} {H : Hp} {s t u : Sl} {x y v : V} {Q : Hp → Prop} (S : SimH K C ρ h H) (r1 : SlV K C ρ H x s) (r2 : SlV K C ρ H y t) (r3 : SlV K C ρ H v u) (e : putAt s t u h = some h')
    (k : ∀ H', Ex C ρ H ρ H' → SimH K C ρ h' H' → Q H') : rSetL x y v H Q := by
  unfold putAt at e
  split at e
  · rename_i n i d
    split at e
    · rename_i ds e3
      split at e
      · rename_i j e4
        cases e
        obtain ⟨fp, a, e1, e2, rfl⟩ := r1
        cases (show Rp K H (Mo C ρ) y (.int i) from r2)
        obtain ⟨e1', vs, q, ra⟩ := S.lst e1 e2 e3
        have st : Stp (Mo C ρ) H (Mo C ρ) (upd H a (.lst (vs.set j v))) := ⟨keepE fun b w z nm => by
          have : b ≠ a := fun w => nm (w ▸ .inl (flat_at e1' (by simp)))
          rw [upd_ne this]; exact z, fun _ mm => .inl mm⟩
        have W := S.write (ob := .lst (ds.set j d)) (o := .lst (vs.set j v)) e1' ⟨a, _, rfl, upd_same, (ra.stp st).set (Rp.stp st r3) j⟩
        exact ⟨a, vs, i, j, rfl, rfl, q, by rw [ra.length]; exact e4, k _ W.2 W.1⟩
      · cases e
    · cases e
  · cases e
variable {i : Expr} {fo fi fe : Ev} {pos tpos : Pos}
theorem fs_put (ho : FE X C Wx o fo) (hi : FE X C Wx i fi) (he : FE X C Wx e fe)
    (ha : ∀ v, assign (.Subscript o i tpos) X.env v = (do
      let ov ← holding [v] (eval o X.env)
      let iv ← holding [v, ov] (eval i X.env)
      standAt tpos
      holding [v, ov, iv] (setItem ov iv v)
      release [v, ov, iv] []) := by intro _; rfl)
    (hs : swapsWithSole [.Subscript o i tpos] e pos.line X.env = pure false := by rfl) (hw : swappedStores [.Subscript o i tpos] e X.env = pure none := by rfl)
    (h1 : (assignEach [.Subscript o i tpos] X.env).map (·.2) = [assign (.Subscript o i tpos) X.env] := by rfl) : FS X C Wx (.Assign [.Subscript o i tpos] e pos) (sPut fo fi fe) :=
  PS.imp (ps_asg he (pg_sub ho hi set_list ha) hs hw h1) fun D σ H p => by
    refine rdS.bind (f := fe) (g := fun u env h => (fo env h).fl env fun s h => (fi env h).fl env fun t h => match putAt s t u h with
      | some h' => (.next env h' : Fl)
      | none => .bad) p fun ρ1 env h1 u v H1 S1 E1 r1 P1 => ?_
    refine rd.of S1 E1 ?_
    have P1' : PoS X.K X.mg C Wx D ρ1 H1 ((fo env h1).fl env fun s h => (fi env h).fl env fun t h => match putAt s t u h with
      | some h' => (.next env h' : Fl)
      | none => .bad) := P1
    cases q1 : fo env h1 with
    | bad => rw [q1] at P1'; exact P1'
    | err y h2 => rw [q1] at P1'; exact fun ρ' H' cls d s S' q => P1' ρ' σ H' cls d s.stp S' (E1.ex s) q
    | ok s h2 =>
      rw [q1] at P1'
      intro ρ2 x H2 x2 S2 r2
      refine rd.of S2 (E1.ex x2) ?_
      have P2 : PoS X.K X.mg C Wx D ρ1 H1 ((fi env h2).fl env fun t h => match putAt s t u h with
        | some h' => (.next env h' : Fl)
        | none => .bad) := P1'
      cases q2 : fi env h2 with
      | bad => rw [q2] at P2; exact P2
      | err y h3 => rw [q2] at P2; exact fun ρ' H' cls d s S' q => P2 ρ' σ H' cls d (x2.stp.trans s.stp) S' ((E1.ex x2).ex s) q
      | ok t h3 =>
        rw [q2] at P2
        intro ρ3 y H3 x3 S3 r3
        have P3 : PoS X.K X.mg C Wx D ρ1 H1 (match putAt s t u h3 with
          | some h' => (.next env h' : Fl)
          | none => .bad) := P2
        cases q3 : putAt s t u h3 with
        | none => rw [q3] at P3; exact P3.elim
        | some h4 =>
          rw [q3] at P3
          exact put_rel S3 (SlV.ex x3 r2) r3 (SlV.ex (x2.trans x3) r1) q3 fun H4 x4 S4 => P3 ρ3 σ H4 ((x2.stp.trans x3.stp).trans x4.stp) S4 (((E1.ex x2).ex x3).ex x4)
def lix (s t : Sl) (h : Hs) : Option PyData := match litems s h, t with
  | some ds, .val (.int i) => atI ds i
  | _, _ => none
def sAugIx (g : G2) (fo fi fe : Ev) : Sv := fun env h => (fo env h).fl env fun s h => (fi env h).fl env fun t h => match lix s t h with
  | some x => (fe env h).fl env fun u h => match g (.val x) u h with
    | some d => match putAt s t (.val d) h with
      | some h' => .next env h'
      | none => .bad
    | none => .bad
  | none => .bad
end
end FL
namespace FL
open PySem PySem.Spec PyProof.Rows L2
def wipeE (env : En) : List Nat → En
  | [] => env
  | v :: vs => (wipeE env vs).set v none
theorem wipeE_length (env : En) : ∀ vs : List Nat, (wipeE env vs).length = env.length
  | [] => rfl
  | v :: vs => by show ((wipeE env vs).set v none).length = _; rw [List.length_set, wipeE_length env vs]
theorem wipeE_get (env : En) (k : Nat) (s : Sl) : ∀ vs : List Nat, (wipeE env vs)[k]? = some (some s) → env[k]? = some (some s) ∧ k ∉ vs
  | [], e => ⟨e, by simp⟩
  | v :: vs, e => by
    have e' : ((wipeE env vs).set v none)[k]? = some (some s) := e
    by_cases h : v = k
    · subst h
      rw [List.getElem?_set, if_pos rfl] at e'
      split at e' <;> cases e'
    · rw [List.getElem?_set_ne h] at e'
      obtain ⟨a, b⟩ := wipeE_get env k s vs e'
      exact ⟨a, fun z => by
        rcases List.mem_cons.mp z with z | z
        · exact h z.symm
        · exact b z⟩
theorem wipe_wipe (σ : St) (vs : List Nat) : wipe (wipe σ vs) vs = wipe σ vs := by
  refine List.ext_getElem? fun k => ?_
  rw [wipe_get, wipe_get]
  by_cases hk : k ∈ vs
  · rw [if_pos hk, if_pos hk]
    cases σ[k]? <;> rfl
  · rw [if_neg hk]
section
variable {K : PySem.W.Frag} {C C' : Fc} {ρ : Fps} {H : Hp} {env : En} {σ : St}
theorem EnvOk.wiped (E : EnvOk K C ρ H env σ) (vs : List Nat) : EnvOk K C ρ H (wipeE env vs) (wipe σ vs) := by
  refine ⟨by rw [wipeE_length, wipe_length]; exact E.len, fun i s e => ?_⟩
  obtain ⟨e1, n⟩ := wipeE_get env i s vs e
  obtain ⟨v, e2, r⟩ := E.at_ i s e1
  exact ⟨v, by rw [wipe_get, if_neg n]; exact e2, r⟩
theorem SlV.cong (hb : C.Bar = C'.Bar) (hx : C.exc = C'.exc) {v : V} {s : Sl} (r : SlV K C ρ H v s) : SlV K C' ρ H v s := by
  have e : Mo C ρ = Mo C' ρ := by unfold Mo; rw [hb]
  cases s with
  | val d =>
    have r' : Rp K H (Mo C ρ) v d := r
    rw [e] at r'
    exact r'
  | loc n => exact r
  | inn n i => exact r
  | exn x =>
    obtain ⟨a, e1, e2⟩ := r
    exact ⟨a, by rw [← hx]; exact e1, e2⟩
  | pr n d =>
    obtain ⟨t, a, w, fp, e0, e1, e2, e3, e4, e5⟩ := r
    rw [e] at e2 e5
    exact ⟨t, a, w, fp, e0, e1, e2, e3, e4, e5⟩
theorem EnvOk.cong (hb : C.Bar = C'.Bar) (hx : C.exc = C'.exc) (E : EnvOk K C ρ H env σ) : EnvOk K C' ρ H env σ := ⟨E.len, fun i s e => let ⟨v, a, b⟩ := E.at_ i s e; ⟨v, a, SlV.cong hb hx b⟩⟩
theorem Ex.cong (hb : C.Bar = C'.Bar) {ρ1 : Fps} {H1 : Hp} (x : Ex C ρ H ρ1 H1) : Ex C' ρ H ρ1 H1 := by
  have e : ∀ ρ, Mo C ρ = Mo C' ρ := fun ρ => by unfold Mo; rw [hb]
  refine ⟨?_, x.root⟩
  rw [← e, ← e]
  exact x.stp
end
def tTrue : Tv := fun _ h => .ok true h
abbrev FTs (X : Cx) (C : Fc) (Wx : WX) (ifs : List Expr) (f : Tv) : Prop := PTs X ifs (rd X.K X.mg C Wx relT f)
theorem fts_nil {X : Cx} {C : Fc} {Wx : WX} : FTs X C Wx [] tTrue := ⟨fun pins s σ H Q I ⟨ρ, env, h, S, E, P⟩ => pts_nil.run pins s σ H Q I (P ρ true H (Ex.refl _ _ _) S rfl)⟩
theorem fts_one {X : Cx} {C : Fc} {Wx : WX} {c : Expr} {f : Tv} (h : FT X C Wx c f) : FTs X C Wx [c] f := pts_one h
abbrev W0 : WX := fun _ _ _ _ => False
def compL (t : Tg) (tt : Tv) (fe : Ev) (env : En) : List PyData → List PyData → Hs → Rz (List PyData)
  | [], acc, h => .ok acc h
  | d :: ds, acc, h => match t.put d env with
    | none => .bad
    | some e1 => match tt e1 h with
      | .ok true h => match fe e1 h with
        | .ok (.val x) h => if acc.length < 16777216 then compL t tt fe env ds (acc ++ [x]) h else .bad
        | _ => .bad
      | .ok false h => compL t tt fe env ds acc h
      | _ => .bad
def eComp (src : En → Hs → Rz (List PyData)) (t : Tg) (vs : List Nat) (tt : Tv) (fe : Ev) : Ev := fun env h => (src env h).bind fun ds h => (compL t tt fe (wipeE env vs) ds [] h).bind fun out h => .ok (.val (.list out)) h
/-- .. the list one of the def's own -/
def eCompN (src : En → Hs → Rz (List PyData)) (t : Tg) (vs : List Nat) (tt : Tv) (fe : Ev) : Ev := fun env h => (src env h).bind fun ds h => (compL t tt fe (wipeE env vs) ds [] h).bind fun out h => .ok (.loc h.length) (h ++ [.lst out])
section
variable {K : PySem.W.Frag} {mg : Str → Option Value} {C : Fc} {Wx : WX} {σ : St} {H : Hp}
/-- what stands between two turns of a comprehension -/
structure Mid (K : PySem.W.Frag) (C : Fc) (D : Addr) (ρ1 : Fps) (H1 : Hp) (env : En) (σ : St) (acc : List PyData) (ρ : Fps) (h : Hs) (H : Hp) (av : List V) : Prop where
  S : SimH K (C.plus D) ρ h H
  E : EnvOk K (C.plus D) ρ H env σ
  st : Stp (Mo C ρ1) H1 (Mo (C.plus D) ρ) H
  root : ∀ (n : Nat) (fp : List Addr), ρ1[n]? = some fp → ∃ fp' : List Addr, ρ[n]? = some fp' ∧ fp <+: fp'
  at_ : H D = some (.lst av)
  all : RpAll K H (Mo (C.plus D) ρ) av acc
theorem Mid.ex {D : Addr} {ρ1 ρ : Fps} {H1 H : Hp} {env : En} {acc : List PyData} {h : Hs} {av : List V} (M : Mid K C D ρ1 H1 env σ acc ρ h H av) : Ex C ρ1 H1 ρ H :=
  ⟨⟨M.st.keepK, fun b m => M.st.new b (Mo.unplus m)⟩, M.root⟩
theorem Mid.step {D : Addr} {ρ1 ρ ρ2 : Fps} {H1 H H2 : Hp} {env : En} {acc : List PyData} {h h2 : Hs} {av : List V} (M : Mid K C D ρ1 H1 env σ acc ρ h H av) (S2 : SimH K ((C.plus D).sub ρ H) ρ2 h2 H2) (x : Ex ((C.plus D).sub ρ H) ρ H ρ2 H2) :
    Mid K C D ρ1 H1 env σ acc ρ2 h2 H2 av := by
  have x' : Ex (C.plus D) ρ H ρ2 H2 := Ex.cong (C := (C.plus D).sub ρ H) (C' := C.plus D) rfl x
  refine ⟨M.S.backW S2, M.E.ex x', M.st.trans x'.stp, fun n fp e => ?_, S2.fr M.at_ (M.S.bar D (.inr rfl)).1 nt_lst, M.all.stp x'.stp⟩
  obtain ⟨fp1, e1, q1⟩ := M.root n fp e
  obtain ⟨fp2, e2, q2⟩ := x'.root n fp1 e1
  exact ⟨fp2, e2, q1.trans q2⟩
end
theorem lc_read {K : PySem.W.Frag} {mg : Str → Option Value} {C : Fc} {Wx : WX} {src : En → Hs → Rz (List PyData)} {t : Tg} {vs : List Nat} {tt : Tv} {fe : Ev} {σ : St} {H : Hp} {Q : VK} {g : List PyData → Hs → Rz Sl}
    (hsl : ∀ i ∈ t.slots, i ∈ vs) {rt : TT} {re : TE} (ht : ∀ C', C'.T = C.T → ∀ σ H Q, rd K mg C' W0 relT tt σ H Q → rt σ H Q) (he : ∀ C', C'.T = C.T → ∀ σ H Q, rd K mg C' W0 (relE K C') fe σ H Q → re σ H Q)
    (fin : ∀ (D : Addr) (ρ1 ρ : Fps) (H1 H : Hp) (env : En) (acc : List PyData) (h : Hs) (av : List V) (σ' : St) h1, SimH K C ρ1 h1 H1 → H1 D = none → Mid K C D ρ1 H1 env σ' acc ρ h H av → Po K mg C Wx σ ρ1 H1 (relE K C) (g acc h) Q → Q (.ref D) H)
    (p : rd K mg C Wx (relE K C) (fun env h => (src env h).bind fun ds h => (compL t tt fe (wipeE env vs) ds [] h).bind g) σ H Q) : tLc (rd K mg C Wx (relI K C) src) (t.rd K) rt re vs σ H Q := by
  refine rd.bind (f := src) (g := fun ds env h => (compL t tt fe (wipeE env vs) ds [] h).bind g) p fun ρ1 env1 h1 ds J H1 S1 E1 G P1 => ?_
  intro D hD
  have M0 : Mid K C D ρ1 H1 (wipeE env1 vs) (wipe σ vs) [] ρ1 h1 (upd H1 D (.lst [])) [] := by
    refine ⟨S1.plus hD, ⟨(E1.wiped vs).len, fun i s e => ?_⟩, Stp.plus hD, fun n fp e => ⟨fp, e, pfx_rfl⟩, upd_same, .nil⟩
    obtain ⟨v, e1, r⟩ := (E1.wiped vs).at_ i s e
    refine ⟨v, e1, ?_⟩
    cases s with
    | val d => exact Rp.stp (Stp.plus hD) r
    | loc n => exact r
    | inn n i => exact r
    | exn x => exact r
    | pr _ _ => exact SlV.prs (Stp.plus hD) r
  refine ⟨fun i m H2 => m = ds.length - i ∧ ∃ ρ2 h2 acc av, Mid K C D ρ1 H1 (wipeE env1 vs) (wipe σ vs) acc ρ2 h2 H2 av ∧ Po K mg C Wx σ ρ1 H1 (relE K C) ((compL t tt fe (wipeE env1 vs) (ds.drop i) acc h2).bind g) Q,
    ⟨ds.length - 0, rfl, ρ1, h1, [], [], M0, P1⟩, fun i m H2 hW => ?_⟩
  · obtain ⟨hm, ρ2, h2, acc, av, M, P2⟩ := hW
    by_cases hi : i < ds.length
    · have ed : ds.drop i = ds[i] :: ds.drop (i + 1) := List.drop_eq_getElem_cons hi
      have ei : ds[i]? = some ds[i] := List.getElem?_eq_getElem hi
      rw [ed] at P2
      refine .inr ⟨G.go _ H2 i _ M.st ei, fun H' => ∃ ρ3 h3 acc av, Mid K C D ρ1 H1 (wipeE env1 vs) (wipe σ vs) acc ρ3 h3 H' av ∧ Po K mg C Wx σ ρ1 H1 (relE K C) ((compL t tt fe (wipeE env1 vs) (ds.drop (i + 1)) acc h3).bind g) Q, fun H' hN => ⟨ds.length - (i + 1), by omega, rfl, hN⟩, fun x H' y => ?_⟩
      obtain ⟨S3, x3, r3⟩ := G.step (C := C.plus D) M.st M.S ei y
      have M3 : Mid K C D ρ1 H1 (wipeE env1 vs) (wipe σ vs) acc ρ2 h2 H' av := by
        have hat : H' D = some (.lst av) := by
          rcases G.yld _ H2 i _ x H' M.st ei y with ⟨rfl, _⟩ | ⟨T, ws, es, hT, rfl, _⟩ | ⟨rfl, _⟩
          · exact M.at_
          · rw [upd_ne (ne_of_none M.at_ hT)]; exact M.at_
          · exact M.at_
        exact ⟨S3, M.E.ex x3, M.st.trans x3.stp, M.root, hat, M.all.stp x3.stp⟩
      have P3 : Po K mg C Wx σ ρ1 H1 (relE K C) ((match t.put ds[i] (wipeE env1 vs) with
        | none => .bad
        | some e1 => match tt e1 h2 with
          | .ok true h => match fe e1 h with
            | .ok (.val x) h => if acc.length < 16777216 then compL t tt fe (wipeE env1 vs) (ds.drop (i + 1)) (acc ++ [x]) h else .bad
            | _ => .bad
          | .ok false h => compL t tt fe (wipeE env1 vs) (ds.drop (i + 1)) acc h
          | _ => .bad : Rz (List PyData)).bind g) Q := P2
      cases q : t.put ds[i] (wipeE env1 vs) with
      | none => rw [q] at P3; exact P3.elim
      | some e1 =>
        rw [q] at P3
        dsimp only at P3
        refine Tg.ok t x ds[i] (wipe σ vs) (wipeE env1 vs) e1 _ r3 q fun σ3 pt => ⟨by rw [pt.wipe vs hsl, wipe_wipe], ?_⟩
        have E3 : EnvOk K (C.plus D) ρ2 H' e1 σ3 := pt.env (C.plus D) ρ2 rfl M3.E
        refine ht ((C.plus D).sub ρ2 H') rfl σ3 H' _ (rd.of S3.sub (EnvOk.cong (C := C.plus D) (C' := (C.plus D).sub ρ2 H') rfl rfl E3) ?_)
        cases z : tt e1 h2 with
        | bad => rw [z] at P3; exact P3.elim
        | err _ _ => rw [z] at P3; exact P3.elim
        | ok b h4 =>
          rw [z] at P3
          intro ρ4 b' H4 x4 S4 eb
          have eb' : b' = b := eb
          subst eb'
          have M4 := M3.step S4 x4
          have x4' : Ex (C.plus D) ρ2 H' ρ4 H4 := Ex.cong (C := (C.plus D).sub ρ2 H') (C' := C.plus D) rfl x4
          cases b' with
          | false =>
            rw [if_neg Bool.false_ne_true]
            exact ⟨ρ4, h4, acc, av, M4, P3⟩
          | true =>
            rw [if_pos rfl]
            dsimp only at P3
            refine he ((C.plus D).sub ρ4 H4) rfl σ3 H4 _ (rd.of M4.S.sub (EnvOk.cong (C := C.plus D) (C' := (C.plus D).sub ρ4 H4) rfl rfl (E3.ex x4')) ?_)
            cases w : fe e1 h4 with
            | bad => rw [w] at P3; exact P3.elim
            | err _ _ => rw [w] at P3; exact P3.elim
            | ok s5 h5 =>
              rw [w] at P3
              cases s5 with
              | loc n => exact P3.elim
              | inn n i => exact P3.elim
              | exn x => exact P3.elim
              | pr _ _ => exact P3.elim
              | val x5 =>
                intro ρ5 y5 H5 x5' S5 r5
                have M5 := M4.step S5 x5'
                have P4 : Po K mg C Wx σ ρ1 H1 (relE K C) ((if acc.length < 16777216 then compL t tt fe (wipeE env1 vs) (ds.drop (i + 1)) (acc ++ [x5]) h5 else .bad : Rz (List PyData)).bind g) Q := P3
                split at P4
                · rename_i hl
                  have bD : (C.plus D).Bar D := .inr rfl
                  have n0 : (C.plus D).H0 D = none := by
                    cases q0 : C.H0 D with
                    | none => exact q0
                    | some o =>
                      by_cases hw : D ∈ C.W.flatten
                      · obtain ⟨o', e'⟩ := S1.wtr D hw
                        rw [hD] at e'; cases e'
                      · obtain ⟨o', e', _⟩ := S1.frK D o q0 hw
                        rw [hD] at e'; cases e'
                  have r5' : Rp K H5 (Mo (C.plus D) ρ5) y5 x5 := r5
                  have sp := Stp.poke (C := C.plus D) (ρ := ρ5) (H := H5) (o := .lst (av ++ [y5])) bD
                  refine ⟨av, M5.at_, by rw [M5.all.length, sizeLine_eq]; exact hl, ρ5, h5, acc ++ [x5], av ++ [y5], ⟨M5.S.poke bD n0 M5.at_ nte_lst, ?_, M5.st.trans sp, M5.root, upd_same, (M5.all.stp sp).append (.cons (Rp.stp sp r5') .nil)⟩, P4⟩
                  exact M5.E.ex ⟨sp, fun n fp e => ⟨fp, e, pfx_rfl⟩⟩
                · exact P4.elim
    · have ed : ds.drop i = [] := List.drop_eq_nil_of_le (by omega)
      rw [ed] at P2
      exact .inl ⟨G.stop _ H2 i M.st (by omega), fin D ρ1 ρ2 H1 H2 _ acc h2 av _ h1 S1 hD M P2⟩
section
variable {X : Cx} {C : Fc} {Wx : WX} {elt tg iter : Expr} {ifs : List Expr} {scope : Scope} {own : List (Str × Nat)} {pos : Pos} {src : En → Hs → Rz (List PyData)} {t : Tg} {tt : Tv} {fe : Ev}
theorem lc_val {K : PySem.W.Frag} {mg : Str → Option Value} {σ : St} {Q : VK} (D : Addr) (ρ1 ρ : Fps) (H1 H : Hp) (env : En) (acc : List PyData) (h : Hs) (av : List V) (σ' : St) (h1 : Hs) (S1 : SimH K C ρ1 h1 H1) (hD : H1 D = none) (M : Mid K C D ρ1 H1 env σ' acc ρ h H av)
    (P : Po K mg C Wx σ ρ1 H1 (relE K C) (.ok (.val (.list acc)) h) Q) : Q (.ref D) H := by
  have nb : ¬ C.Bar D := fun b => by
    obtain ⟨_, o, e⟩ := S1.bar D b
    rw [hD] at e; cases e
  refine P ρ (.ref D) H M.ex M.S.unplus (.lst (.inl ⟨.inl M.at_, fun m => ?_⟩) (M.all.fewer fun _ => Mo.unplus))
  rcases m with m | m
  · exact (M.S.bar D (.inr rfl)).1 m
  · exact nb m
theorem fe_comp (hc : X.calm = true) (hN : X.N.Nodup) (hi : FI X C Wx tg iter src) (ok : BlkOk X.N X.env.scope scope own)
    (hg : ∀ (s : Shared) (H : Hp) (Cc : Addr) (cl : List (Str × Addr)) (fp : List Addr), FG (X.blk s H scope (compEnvC scope cl Cc X.env) fp) tg t)
    (ht : ∀ (C' : Fc) (_ : C'.T = C.T) (s : Shared) (H : Hp) (Cc : Addr) (cl : List (Str × Addr)) (fp : List Addr), FTs (X.blk s H scope (compEnvC scope cl Cc X.env) fp) C' W0 ifs tt)
    (he : ∀ (C' : Fc) (_ : C'.T = C.T) (s : Shared) (H : Hp) (Cc : Addr) (cl : List (Str × Addr)) (fp : List Addr), FE (X.blk s H scope (compEnvC scope cl Cc X.env) fp) C' W0 elt fe)
    (hsl : ∀ i ∈ t.slots, i ∈ own.map (·.2) := by decide) (hs : ∀ x, foldedSetIterable iter X.env x = pure x := by intro _; rfl) :
    FE X C Wx (.ListComp elt [⟨tg, iter, ifs, 0⟩] scope pos) (eComp src t (own.map (·.2)) tt fe) :=
  PE.imp (pe_lc (tt := fun σ H Q => ∃ C', C'.T = C.T ∧ rd X.K X.mg C' W0 relT tt σ H Q) (te := fun σ H Q => ∃ C', C'.T = C.T ∧ rd X.K X.mg C' W0 (relE X.K C') fe σ H Q) hc hN hi ok hg
    (fun s H Cc cl fp => ⟨fun pins s' σ H Q I ⟨C', z, q⟩ => (ht C' z s _ Cc cl fp).run pins s' σ H Q I q⟩) (fun s H Cc cl fp => ⟨fun pins s' σ H Q I ⟨C', z, q⟩ => (he C' z s _ Cc cl fp).run pins s' σ H Q I q⟩) hs) fun σ H Q p =>
    lc_read (g := fun out h => .ok (.val (.list out)) h) hsl (fun C' z _ _ _ q => ⟨C', z, q⟩) (fun C' z _ _ _ q => ⟨C', z, q⟩) lc_val p
/-- y = [..], a statement of its own -/
theorem fs_setLc {i : Nat} {y : Str} {py spos : Pos} (hc : X.calm = true) (hN : X.N.Nodup) (hy : X.N[i]? = some y) (hyl : X.env.scope.names.lookup y = some .local)
    (hsw : swapsWith (.ListComp elt [⟨tg, iter, ifs, 0⟩] scope pos) (some (.Name y py)) spos.line X.env = pure true) (hi : FI X C Wx tg iter src) (ok : BlkOk X.N X.env.scope scope own)
    (hg : ∀ (s : Shared) (H : Hp) (Cc : Addr) (cl : List (Str × Addr)) (fp : List Addr), FG (X.blk s H scope (compEnvC scope cl Cc X.env) fp) tg t)
    (ht : ∀ (C' : Fc) (_ : C'.T = C.T) (s : Shared) (H : Hp) (Cc : Addr) (cl : List (Str × Addr)) (fp : List Addr), FTs (X.blk s H scope (compEnvC scope cl Cc X.env) fp) C' W0 ifs tt)
    (he : ∀ (C' : Fc) (_ : C'.T = C.T) (s : Shared) (H : Hp) (Cc : Addr) (cl : List (Str × Addr)) (fp : List Addr), FE (X.blk s H scope (compEnvC scope cl Cc X.env) fp) C' W0 elt fe)
    (hsl : ∀ i ∈ t.slots, i ∈ own.map (·.2) := by decide) (hs : ∀ x, foldedSetIterable iter X.env x = pure x := by intro _; rfl) :
    FS X C Wx (.Assign [.Name y py] (.ListComp elt [⟨tg, iter, ifs, 0⟩] scope pos) spos) (sSet i (eComp src t (own.map (·.2)) tt fe)) :=
  PS.imp (ps_setLc (tt := fun σ H Q => ∃ C', C'.T = C.T ∧ rd X.K X.mg C' W0 relT tt σ H Q) (te := fun σ H Q => ∃ C', C'.T = C.T ∧ rd X.K X.mg C' W0 (relE X.K C') fe σ H Q) hc hN hy hyl hsw hi ok hg
    (fun s H Cc cl fp => ⟨fun pins s' σ H Q I ⟨C', z, q⟩ => (ht C' z s _ Cc cl fp).run pins s' σ H Q I q⟩) (fun s H Cc cl fp => ⟨fun pins s' σ H Q I ⟨C', z, q⟩ => (he C' z s _ Cc cl fp).run pins s' σ H Q I q⟩) hs) fun D σ H p =>
    lc_read (g := fun out h => .ok (.val (.list out)) h) hsl (fun C' z _ _ _ q => ⟨C', z, q⟩) (fun C' z _ _ _ q => ⟨C', z, q⟩) lc_val
      (rdS.bind (r1 := relE X.K C) (R := fun x H1 => gName i x σ H1 D.nx) (f := eComp src t (own.map (·.2)) tt fe) (g := fun s env h => .next (env.set i (some s)) h) p fun ρ1 env h1 a b H1 S1 E1 r1 P1 => P1 ρ1 _ H1 (Stp.refl _ _) S1 (E1.set r1 i))
end
end FL
namespace FL
open PySem PySem.Spec PyProof.Rows L2
/-- the arguments of a call: data, and objects that may be changed -/
inductive ArgsOk (K : PySem.W.Frag) (H : Hp) (M : Ms) : List Bool → List V → List PyData → Hs → List Addr → Prop
  | nil : ArgsOk K H M [] [] [] [] []
  | val {io : List Bool} {v : V} {vs : List V} {d : PyData} {ds : List PyData} {os : Hs} {ad : List Addr} : Rp K H M v d → ArgsOk K H M io vs ds os ad → ArgsOk K H M (false :: io) (v :: vs) (d :: ds) os ad
  | obj {io : List Bool} {a : Addr} {vs : List V} {o : Ob} {ds : List PyData} {os : Hs} {ad : List Addr} : ObOk K H M [a] o → ArgsOk K H M io vs ds os ad → ArgsOk K H M (true :: io) (.ref a :: vs) ds (o :: os) (a :: ad)
def OsOk (K : PySem.W.Frag) (H : Hp) (M : Ms) (ad : List Addr) (os : Hs) : Prop := ad.length = os.length ∧ ∀ (n : Nat) (a : Addr) (o : Ob), ad[n]? = some a → os[n]? = some o → ObOk K H M [a] o
mutual
/-- no list in it -/
def noL : PyData → Bool
  | .list _ => false
  | .dict _ => false
  | .tuple ds => noLs ds
  | .none => true
  | .bool _ => true
  | .int _ => true
  | .str _ => true
def noLs : List PyData → Bool
  | [] => true
  | d :: ds => noL d && noLs ds
end
abbrev Fm := List PyData → Hs → Rz PyData
def Ma (ad : List Addr) (Bar : Ms) : Ms := fun a => a ∈ ad ∨ Bar a
/-- what is new, if it is a list -/
def FrOk (K : PySem.W.Frag) (H H' : Hp) (M : Ms) (v : V) (d : PyData) : Prop :=
  noL d = true ∨ ∃ a vs ds, v = .ref a ∧ d = .list ds ∧ H a = none ∧ H' a = some (.lst vs) ∧ RpAll K H' M vs ds ∧ noLs ds = true
/-- all but what stands at ad stays; tables may grow -/
def FrmK (T : List (Addr × Str)) (ad : List Addr) (H H' : Hp) : Prop := (∀ b o, H b = some o → b ∉ ad → ∃ o', H' b = some o' ∧ Kp o o') ∧ LamX.Tabs T H'
/-- what a def may not hand on: it is there, and no tuple -/
def BarOk (H : Hp) (ad : List Addr) (Bar : Ms) : Prop := (∀ b, Bar b → b ∉ ad ∧ ∃ o, H b = some o) ∧ ∀ b (xs : Hd), Bar b → H b ≠ some xs.o
/-- the promise that a mirror tells -/
def spOf (K : PySem.W.Frag) (mg : Str → Option Value) (T : List (Addr × Str)) (fr : Bool) (io : List Bool) (m : Fm) : Sp := fun vs H Q E =>
  ∃ (ad : List Addr) (Bar : Ms) (ds : List PyData) (os : Hs), LamX.Tabs T H ∧ ArgsOk K H (Ma ad Bar) io vs ds os ad ∧ ad.Nodup ∧ BarOk H ad Bar ∧ match m ds os with
    | .ok d os' => ∀ v H', FrmK T ad H H' → OsOk K H' (Ma ad Bar) ad os' → Rp K H' (Ma ad Bar) v d → (fr = true → FrOk K H H' (Ma ad Bar) v d) → Q v H'
    | .err x os' => ∀ H' cls d, FrmK T ad H H' → OsOk K H' (Ma ad Bar) ad os' → XnOk K mg H' (Ma ad Bar) x cls d → E cls d H'
    | .bad => False
/-- a def's promise, where no repr is under way -/
structure FnG (P : Program) (w : World) (K : PySem.W.Frag) (mg : Str → Option Value) (base : Heap) (X : CXT) (k : Nat) (f : Addr) (fd : FuncData) (ps : List Str) (sp : Sp) : Prop where
  len : ∀ vs H Q E, sp vs H Q E → vs.length = ps.length
  run : ∀ (A : Around) (outer : List Env) (s : Shared) (H : Hp) (args : Args) (us : List Value) (vs : List V) (Q : VK) (E : XK), A.guards = some [] → Room k A → Env0 P w K mg base A outer s H → BindsTo s fd args (ps.zip us) → Vals vs us → sp vs H Q E →
    codeAny (model P w) A (.call (.ref f) args) (CR X outer P w H s Q E) s
theorem FnG.mono {P : Program} {w : World} {K : PySem.W.Frag} {mg : Str → Option Value} {base : Heap} {X : CXT} {j k : Nat} {f : Addr} {fd : FuncData} {ps : List Str} {sp : Sp} (F : FnG P w K mg base X j f fd ps sp) (h : j ≤ k) : FnG P w K mg base X k f fd ps sp :=
  ⟨F.len, fun A outer s H args us vs Q E hg hr => F.run A outer s H args us vs Q E hg (hr.mono h)⟩
section
variable {P : Program} {w : World} {K : PySem.W.Frag} {mg : Str → Option Value} {base : Heap}
/-- a def by its body -/
theorem fnG_of {X : CXT} {x qual : Str} {st : Stmt} {f : Addr} {fd : FuncData} {N ps : List Str} {k : Nat} {sp : Sp} (F : Fun K x qual st f fd) (S : FnScope N ps (defScope st)) (len : ∀ vs H Q E, sp vs H Q E → vs.length = ps.length)
    (hb : ∀ (cdv : Value), fd.code = cdv → ∀ (A : Around) (outer : List Env) (s : Shared) (H : Hp) (vs : List V) (Q : VK) (E : XK), A.guards = some [] → Room k (A.deeper (envOfC qual (defScope st) s.heap.objs.size f cdv)) → sp vs H Q E →
      ∃ t, PSs (cxOf X P w K mg base N qual (defScope st) f cdv A outer s H E) (defBody st) t ∧ t { nx := fun _ H' => Q .non H', rt := Q } (start N vs) H) : FnG P w K mg base X (k + 1) f fd ps sp := by
  obtain ⟨oc, od, kV, doc, pm, an, cdv, ct, osl, rfl, lk, hcd⟩ := F.ex
  constructor
  · exact len
  intro A outer s H args us vs Q E hg hr e0 hbn r hsp
  have up : ∀ b o, base.get? b = some o → s.heap.get? b = some o := fun b o e => (e0.bs b o e).1
  have kinds : ∀ y ∈ ps.zip us, (defScope st).names.lookup y.1 = some .local ∨ ((defScope st).names.lookup y.1 = some .cell ∧ ((cellsFrom (s.heap.objs.size + 1) (defScope st).names []).lookup y.1).isSome = true) := by
    rintro ⟨n, v⟩ hy
    have hn := S.par n (List.of_mem_zip hy).1
    exact hn.imp id fun q => ⟨q, PySem.W.cellsFrom_some _ _ _ (.inl q)⟩
  have kin : K.In s.heap := e0.mod.kin.keeps up
  refine codeAny_call_function hr.depth (kin _ _ lk) rfl S.co S.gen rfl (PySem.W.codeRec_of kin hcd) (hbn _ _ _ _ (wpAny_newFunctionEnv_cells S.kind kinds ?_))
  intro env he s1 x1
  subst he
  obtain ⟨t, ht, hq⟩ := hb cdv rfl A outer s H vs Q E hg (hr.deeper _) hsp
  refine ⟨(e0.mod.nolimit.keeps up).keeps x1.toInCall.keep, codeAny_func (wpAny_mono (ht.run [] s1 (start N vs) H _ (inv_start S hr.hd e0 (len _ _ _ _ hsp) r x1) hq) ?_ fun e s' hs => hs)⟩
  intro fl s' hs
  match fl, hs with
  | .ret u, hs => obtain ⟨v, _, H', J, rv, q⟩ := hs; exact ⟨v, H', J.os, J.bare, J.base, J.hok, rv, q⟩
  | .next, hs => obtain ⟨_, H', J, q⟩ := hs; exact ⟨V.non, H', J.os, J.bare, J.base, J.hok, rfl, q⟩
  | .brk, hs => obtain ⟨_, _, _, q⟩ := hs; exact False.elim q
  | .cont, hs => obtain ⟨_, _, _, q⟩ := hs; exact False.elim q
end
def mkEnv : List Bool → List PyData → Nat → En
  | false :: io, d :: ds, k => some (.val d) :: mkEnv io ds k
  | true :: io, ds, k => some (.loc k) :: mkEnv io ds (k + 1)
  | _, _, _ => []
def outD (fr : Bool) (k : Nat) (s : Sl) (h : Hs) : Rz PyData := match s with
  | .val d => if fr = true ∧ noL d = false then .bad else .ok d (h.take k)
  | .loc n => if k ≤ n then (match h[n]? with
    | some (.lst ds) => if fr = true ∧ noLs ds = false then .bad else .ok (.list ds) (h.take k)
    | some (.lls dss) => if fr = true then .bad else .ok (.list (dss.map .list)) (h.take k)
    | _ => .bad) else .bad
  | _ => .bad
def runFn (fr : Bool) (io : List Bool) (nl : Nat) (fb : Sv) : Fm := fun ds os => match fb (mkEnv io ds 0 ++ List.replicate nl none) os with
  | .next _ h => .ok .none (h.take os.length)
  | .ret s h => outD fr os.length s h
  | .err x _ h => .err x (h.take os.length)
  | _ => .bad
section
variable {K : PySem.W.Frag} {H : Hp} {M : Ms}
theorem ArgsOk.lens : ∀ {io : List Bool} {vs : List V} {ds : List PyData} {os : Hs} {ad : List Addr}, ArgsOk K H M io vs ds os ad → vs.length = io.length ∧ ad.length = os.length
  | _, _, _, _, _, .nil => ⟨rfl, rfl⟩
  | _, _, _, _, _, .val _ t => ⟨congrArg (· + 1) t.lens.1, t.lens.2⟩
  | _, _, _, _, _, .obj _ t => ⟨congrArg (· + 1) t.lens.1, congrArg (· + 1) t.lens.2⟩
theorem ArgsOk.count : ∀ {io : List Bool} {vs : List V} {ds : List PyData} {os : Hs} {ad : List Addr}, ArgsOk K H M io vs ds os ad → ad.length = io.count true
  | _, _, _, _, _, .nil => rfl
  | _, _, _, _, _, .val _ t => by rw [List.count_cons]; simpa using t.count
  | _, _, _, _, _, .obj _ t => by rw [List.count_cons]; simpa using t.count
theorem ArgsOk.objs : ∀ {io : List Bool} {vs : List V} {ds : List PyData} {os : Hs} {ad : List Addr}, ArgsOk K H M io vs ds os ad → ∀ (n : Nat) (a : Addr) (o : Ob), ad[n]? = some a → os[n]? = some o → ObOk K H M [a] o
  | _, _, _, _, _, .nil, _, _, _, e, _ => by simp at e
  | _, _, _, _, _, .val _ t, n, a, o, e, e' => t.objs n a o e e'
  | _, _, _, _, _, .obj x t, 0, a, o, e, e' => by
    simp at e e'
    subst e; subst e'
    exact x
  | _, _, _, _, _, .obj x t, n + 1, a, o, e, e' => t.objs n a o (by simpa using e) (by simpa using e')
theorem ObOk.trk {fp : List Addr} {o : Ob} (x : ObOk K H M fp o) : ∀ a ∈ fp, ∃ u, H a = some u := fun a m => by
  obtain ⟨u, e, _⟩ := x.nte m
  exact ⟨u, e⟩
theorem flatten_ones (ad : List Addr) : (ad.map fun a => [a]).flatten = ad := by
  induction ad with
  | nil => rfl
  | cons a r ih => rw [List.map_cons, List.flatten_cons, ih]; rfl
/-- a def's beginning -/
theorem simH_start {T : List (Addr × Str)} {Bar : Ms} {io : List Bool} {vs : List V} {ds : List PyData} {os : Hs} {ad : List Addr} (a : ArgsOk K H (Ma ad Bar) io vs ds os ad) (nd : ad.Nodup) (nb : BarOk H ad Bar) (tb : LamX.Tabs T H) :
    SimH K ⟨H, ad.map fun a => [a], Bar, T, none⟩ (ad.map fun a => [a]) os H := by
  have eM : Mo ⟨H, ad.map fun a => [a], Bar, T, none⟩ (ad.map fun a => [a]) = Ma ad Bar := by
    funext b
    unfold Mo Ma
    rw [flatten_ones]
  have trk : ∀ b ∈ ad, ∃ o, H b = some o := fun b hb => by
    obtain ⟨n, hn, e⟩ := List.getElem_of_mem hb
    have hl := a.lens.2
    have h2 : n < os.length := by omega
    exact (a.objs n b os[n] (by rw [← e]; exact List.getElem?_eq_getElem hn) (List.getElem?_eq_getElem h2)).trk b (by simp)
  refine ⟨by rw [List.length_map]; exact a.lens.2, by rw [flatten_ones]; exact nd, fun b hb => trk b (by rw [flatten_ones] at hb; exact hb), fun n fp o e1 e2 => ?_, fun _ o e _ => ⟨o, e, .inl rfl⟩, fun b hb => .inl hb, fun b hb => ?_, fun b hb => trk b ?_, fun n fp e => e, tb, nb.2⟩
  · rw [eM]
    rw [List.getElem?_map] at e1
    cases q : ad[n]? with
    | none => rw [q] at e1; cases e1
    | some b =>
      rw [q] at e1
      cases e1
      exact a.objs n b o q e2
  · rw [flatten_ones]
    exact nb.1 b hb
  · rw [← flatten_ones ad]; exact hb
theorem envOk_args {C : Fc} {ρ : Fps} (hM : ∀ v d, Rp K H M v d → Rp K H (Mo C ρ) v d) : ∀ {io : List Bool} {vs : List V} {ds : List PyData} {os : Hs} {ad : List Addr} {k : Nat}, ArgsOk K H M io vs ds os ad → (∀ (n : Nat) (a : Addr), ad[n]? = some a → ρ[k + n]? = some [a]) →
    (mkEnv io ds k).length = vs.length ∧ ∀ (i : Nat) (s : Sl), (mkEnv io ds k)[i]? = some (some s) → ∃ v, vs[i]? = some v ∧ SlV K C ρ H v s
  | _, _, _, _, _, k, .nil, _ => ⟨rfl, fun i s e => by simp [mkEnv] at e⟩
  | _, _, _, _, _, k, .val r t, hρ => by
    obtain ⟨l, g⟩ := envOk_args hM (k := k) t hρ
    refine ⟨congrArg (· + 1) l, fun i s e => ?_⟩
    cases i with
    | zero =>
      simp [mkEnv] at e
      subst e
      exact ⟨_, rfl, hM _ _ r⟩
    | succ i =>
      obtain ⟨v, e1, r1⟩ := g i s (by simpa [mkEnv] using e)
      exact ⟨v, by simpa using e1, r1⟩
  | _, _, _, _, _, k, .obj (a := a) x t, hρ => by
    obtain ⟨l, g⟩ := envOk_args hM (k := k + 1) t fun n b e => by
      have := hρ (n + 1) b (by simpa using e)
      rw [show k + 1 + n = k + (n + 1) by omega]
      exact this
    refine ⟨congrArg (· + 1) l, fun i s e => ?_⟩
    cases i with
    | zero =>
      have e' : Sl.loc k = s := by simpa [mkEnv] using e
      subst e'
      exact ⟨_, rfl, [a], a, hρ 0 a rfl, rfl, rfl⟩
    | succ i =>
      obtain ⟨v, e1, r1⟩ := g i s (by simpa [mkEnv] using e)
      exact ⟨v, by simpa using e1, r1⟩
theorem envOk_start {C : Fc} {ρ : Fps} {Bar : Ms} {io : List Bool} {vs : List V} {ds : List PyData} {os : Hs} {ad : List Addr} {N : List Str} (a : ArgsOk K H M io vs ds os ad) (hM : ∀ v d, Rp K H M v d → Rp K H (Mo C ρ) v d) (hρ : ρ = ad.map fun a => [a]) :
    EnvOk K C ρ H (mkEnv io ds 0 ++ List.replicate (N.length - io.length) none) (L2.start N vs) := by
  obtain ⟨l, g⟩ := envOk_args (k := 0) hM a fun n b e => by
    rw [hρ, List.getElem?_map, Nat.zero_add, e]; rfl
  have hv := a.lens.1
  unfold L2.start
  refine ⟨by rw [List.length_append, List.length_append, List.length_replicate, List.length_replicate, List.length_map, l, hv], fun i s e => ?_⟩
  by_cases hi : i < (mkEnv io ds 0).length
  · rw [List.getElem?_append_left hi] at e
    obtain ⟨v, e1, r⟩ := g i s e
    refine ⟨v, ?_, r⟩
    rw [List.getElem?_append_left (by rw [List.length_map]; omega), List.getElem?_map, e1]; rfl
  · rw [List.getElem?_append_right (by omega), List.getElem?_replicate] at e
    split at e <;> cases e
end
def Wq (E : XK) : WX := fun cls d _ H => E cls d H
theorem oof_end {T : List (Addr × Str)} {K : PySem.W.Frag} {H H' : Hp} {Bar : Ms} {ad : List Addr} {ρ : Fps} {h : Hs} (S : SimH K ⟨H, ad.map fun a => [a], Bar, T, none⟩ ρ h H') : (∀ b, Ma ad Bar b → Mo ⟨H, ad.map fun a => [a], Bar, T, none⟩ ρ b) ∧ OsOk K H' (Ma ad Bar) ad (h.take ad.length) := by
  have root : ∀ (n : Nat) (a : Addr), ad[n]? = some a → ∃ fp : List Addr, ρ[n]? = some fp ∧ fp.head? = some a := fun n a e => by
    have e1 := S.pre n [a] (by show (ad.map fun a => [a])[n]? = _; rw [List.getElem?_map, e]; rfl)
    exact ⟨[a], e1, rfl⟩
  have sub : ∀ b, Ma ad Bar b → Mo ⟨H, ad.map fun a => [a], Bar, T, none⟩ ρ b := fun b m => by
    rcases m with m | m
    · obtain ⟨n, hn, e⟩ := List.getElem_of_mem m
      obtain ⟨fp, e1, q⟩ := root n b (by rw [← e]; exact List.getElem?_eq_getElem hn)
      refine .inl (flat_at e1 ?_)
      cases fp with
      | nil => cases q
      | cons c r => cases q; simp
    · exact .inr m
  have wl := S.wlen
  have wl' : ad.length ≤ h.length := by
    have : (ad.map fun a => [a]).length ≤ h.length := wl
    rw [List.length_map] at this
    exact this
  refine ⟨sub, by rw [List.length_take]; omega, fun n a o e1 e2 => ?_⟩
  obtain ⟨fp, e3, q⟩ := root n a e1
  have x := S.obj n fp o e3 (get_take e2)
  have fe : fp = [a] := by
    have z := S.pre n [a] (by show (ad.map fun a => [a])[n]? = _; rw [List.getElem?_map, e1]; rfl)
    rw [e3] at z
    exact Option.some.inj z
  subst fe
  exact ObOk.fewer sub x
/-- a body's reading from what a promise tells -/
theorem sp_body {T : List (Addr × Str)} {K : PySem.W.Frag} {mg : Str → Option Value} {N : List Str} {fr : Bool} {io : List Bool} {fb : Sv} {vs : List V} {H : Hp} {Q : VK} {E : XK} (hsp : spOf K mg T fr io (runFn fr io (N.length - io.length) fb) vs H Q E) :
    ∃ C : Fc, C.T = T ∧ C.W.length = io.count true ∧ rdS K mg C (Wq E) fb { nx := fun _ H' => Q .non H', rt := Q } (start N vs) H := by
  obtain ⟨ad, Bar, ds, os, tb, a, nd, nb, P0⟩ := hsp
  refine ⟨⟨H, ad.map fun a => [a], Bar, T, none⟩, rfl, by rw [List.length_map]; exact a.count, ad.map fun a => [a], mkEnv io ds 0 ++ List.replicate (N.length - io.length) none, os, simH_start a nd nb tb, envOk_start (Bar := Bar) a (fun v d r => Rp.fewer (fun b m => ?_) r) rfl, ?_⟩
  · unfold Mo at m
    rw [flatten_ones] at m
    exact m
  have hlen := a.lens.2
  have P1 : match (match fb (mkEnv io ds 0 ++ List.replicate (N.length - io.length) none) os with
    | .next _ h => (.ok .none (h.take os.length) : Rz PyData)
    | .ret s h => outD fr os.length s h
    | .err x _ h => .err x (h.take os.length)
    | _ => .bad) with
    | .ok d os' => ∀ v H', FrmK T ad H H' → OsOk K H' (Ma ad Bar) ad os' → Rp K H' (Ma ad Bar) v d → (fr = true → FrOk K H H' (Ma ad Bar) v d) → Q v H'
    | .err x os' => ∀ H' cls d, FrmK T ad H H' → OsOk K H' (Ma ad Bar) ad os' → XnOk K mg H' (Ma ad Bar) x cls d → E cls d H'
    | .bad => False := P0
  have frame : ∀ {ρ : Fps} {h : Hs} {H' : Hp}, SimH K ⟨H, ad.map fun a => [a], Bar, T, none⟩ ρ h H' → FrmK T ad H H' := fun S' => ⟨fun b o e n => S'.frK b o e (by
    show b ∉ (ad.map fun a => [a]).flatten
    rw [flatten_ones]; exact n), S'.tab⟩
  cases q : fb (mkEnv io ds 0 ++ List.replicate (N.length - io.length) none) os with
  | next e h =>
    rw [q] at P1
    intro ρ' σ' H' st' S' E'
    obtain ⟨sub, oo⟩ := oof_end S'
    rw [hlen] at oo
    exact P1 .non H' (frame S') oo .non fun _ => .inl rfl
  | err y e h =>
    rw [q] at P1
    intro ρ' σ' H' cls d st' S' E' xn
    obtain ⟨sub, oo⟩ := oof_end S'
    rw [hlen] at oo
    refine P1 H' cls d (frame S') oo ⟨xn.1, xn.2.imp id fun ⟨nf, da, ws, h1, h2, h3, h4⟩ => ⟨nf, da, ws, h1, h2, h3, h4.fewer sub⟩⟩
  | brk _ _ => rw [q] at P1; exact P1.elim
  | cont _ _ => rw [q] at P1; exact P1.elim
  | bad => rw [q] at P1; exact P1.elim
  | ret s h =>
    rw [q] at P1
    intro ρ' v H' st' S' r
    obtain ⟨sub, oo⟩ := oof_end S'
    rw [hlen] at oo
    cases s with
    | val d =>
      have P2 : match (if fr = true ∧ noL d = false then .bad else .ok d (h.take os.length) : Rz PyData) with
        | .ok d os' => ∀ v H', FrmK T ad H H' → OsOk K H' (Ma ad Bar) ad os' → Rp K H' (Ma ad Bar) v d → (fr = true → FrOk K H H' (Ma ad Bar) v d) → Q v H'
        | .err x os' => ∀ H' cls d, FrmK T ad H H' → OsOk K H' (Ma ad Bar) ad os' → XnOk K mg H' (Ma ad Bar) x cls d → E cls d H'
        | .bad => False := P1
      by_cases c : fr = true ∧ noL d = false
      · rw [if_pos c] at P2; exact P2.elim
      · rw [if_neg c] at P2
        refine P2 v H' (frame S') oo (Rp.fewer sub r) fun hf => .inl ?_
        cases z : noL d with
        | true => rfl
        | false => exact absurd ⟨hf, z⟩ c
    | loc n =>
      obtain ⟨fp, a0, e1, e2, rfl⟩ := r
      have P2 : match (if os.length ≤ n then (match h[n]? with
        | some (.lst ds) => if fr = true ∧ noLs ds = false then .bad else .ok (.list ds) (h.take os.length)
        | some (.lls dss) => if fr = true then .bad else .ok (.list (dss.map .list)) (h.take os.length)
        | _ => .bad) else .bad : Rz PyData) with
        | .ok d os' => ∀ v H', FrmK T ad H H' → OsOk K H' (Ma ad Bar) ad os' → Rp K H' (Ma ad Bar) v d → (fr = true → FrOk K H H' (Ma ad Bar) v d) → Q v H'
        | .err x os' => ∀ H' cls d, FrmK T ad H H' → OsOk K H' (Ma ad Bar) ad os' → XnOk K mg H' (Ma ad Bar) x cls d → E cls d H'
        | .bad => False := P1
      by_cases hn : os.length ≤ n
      · rw [if_pos hn] at P2
        cases z : h[n]? with
        | none => rw [z] at P2; exact P2.elim
        | some o =>
          rw [z] at P2
          cases o with
          | dic _ => exact P2.elim
          | dil _ _ => exact P2.elim
          | dtp _ => exact P2.elim
          | dtq _ => exact P2.elim
          | ins _ _ => exact P2.elim
          | gone => exact P2.elim
          | lls dss =>
            dsimp only at P2
            by_cases c : fr = true
            · rw [if_pos c] at P2; exact P2.elim
            · rw [if_neg c] at P2
              obtain ⟨b, bs, rfl, hb, hlen2, w⟩ := S'.obj n fp _ e1 z
              have eb : b = a0 := by simpa using e2
              subst eb
              have nm : ∀ c ∈ b :: bs, ¬ Ma ad Bar c := fun c hc m => by
                rcases m with m | m
                · obtain ⟨j, hj, ej⟩ := List.getElem_of_mem m
                  have e3 := S'.pre j [c] (by show (ad.map fun a => [a])[j]? = _; rw [List.getElem?_map, List.getElem?_eq_getElem hj, ej]; rfl)
                  have := nodup_apart S'.nd e1 e3 hc (by simp)
                  omega
                · exact (S'.bar c m).1 (flat_at e1 hc)
              refine P2 (.ref b) H' (frame S') oo (.lst (.inl ⟨.inl hb, nm b (by simp)⟩) ?_) fun hf => absurd hf c
              have key : ∀ (bs : List Addr) (dss : List (List PyData)), bs.length = dss.length → (∀ c ∈ bs, ¬ Ma ad Bar c) → (∀ (i : Nat) (b : Addr) (ds : List PyData), bs[i]? = some b → dss[i]? = some ds → ∃ vs, H' b = some (.lst vs) ∧ RpAll K H' (Ma ad Bar) vs ds) → RpAll K H' (Ma ad Bar) (bs.map V.ref) (dss.map .list) := by
                intro bs
                induction bs with
                | nil =>
                  intro dss hl _ _
                  cases dss with
                  | nil => exact .nil
                  | cons _ _ => cases hl
                | cons b bs ih =>
                  intro dss hl hn hw
                  cases dss with
                  | nil => cases hl
                  | cons ds dss =>
                    obtain ⟨vs, q1, q2⟩ := hw 0 b ds rfl rfl
                    exact .cons (.lst (.inl ⟨.inl q1, hn b (by simp)⟩) q2) (ih dss (by simpa using hl) (fun c hc => hn c (List.mem_cons_of_mem _ hc)) fun i b ds h1 h2 => hw (i + 1) b ds (by simpa using h1) (by simpa using h2))
              exact key bs dss hlen2 (fun c hc => nm c (List.mem_cons_of_mem _ hc)) fun i b ds h1 h2 => by
                obtain ⟨vs, q1, q2⟩ := w i b ds h1 h2
                exact ⟨vs, q1, q2.fewer sub⟩
          | lst ls =>
            dsimp only at P2
            obtain ⟨e1', ws, hw, ra⟩ := S'.lst e1 e2 z
            have mem : a0 ∈ ρ'.flatten := flat_at e1' (by simp)
            have nad : a0 ∉ ad := fun m => by
              obtain ⟨j, hj, ej⟩ := List.getElem_of_mem m
              have e3 := S'.pre j [a0] (by show (ad.map fun a => [a])[j]? = _; rw [List.getElem?_map, List.getElem?_eq_getElem hj, ej]; rfl)
              have hm : a0 ∈ [a0] := by simp
              have := nodup_apart S'.nd e1' e3 (by simp) hm
              omega
            have new : H a0 = none := by
              rcases S'.own a0 mem with w | w
              · exact absurd (by
                  have w' : a0 ∈ (ad.map fun a => [a]).flatten := w
                  rw [flatten_ones] at w'; exact w') nad
              · exact w
            have nbar : ¬ Bar a0 := fun b => (S'.bar a0 b).1 mem
            by_cases c : fr = true ∧ noLs ls = false
            · rw [if_pos c] at P2; exact P2.elim
            · rw [if_neg c] at P2
              refine P2 (.ref a0) H' (frame S') oo (.lst (.inl ⟨.inl hw, fun m => m.elim nad nbar⟩) (ra.fewer sub)) fun hf => .inr ⟨a0, ws, ls, rfl, rfl, new, hw, ra.fewer sub, ?_⟩
              cases z : noLs ls with
              | true => rfl
              | false => exact absurd ⟨hf, z⟩ c
      · rw [if_neg hn] at P2; exact P2.elim
    | inn n i => exact P1.elim
    | exn x => exact P1.elim
    | pr _ _ => exact P1.elim
/-- a def keeps what its mirror tells -/
theorem fnD {T : List (Addr × Str)} {P : Program} {w : World} {K : PySem.W.Frag} {mg : Str → Option Value} {base : Heap} {x qual : Str} {st : Stmt} {f : Addr} {fd : FuncData} {N ps : List Str} {k : Nat} (fr : Bool) (io : List Bool) {fb : Sv} (F : Fun K x qual st f fd) (S : FnScope N ps (defScope st)) (hio : io.length = ps.length)
    (hb : ∀ (cdv : Value), fd.code = cdv → ∀ (A : Around) (outer : List Env) (s : Shared) (H : Hp) (E : XK) (C : Fc), C.T = T → C.W.length = io.count true → A.guards = some [] → Room k (A.deeper (envOfC qual (defScope st) s.heap.objs.size f cdv)) → FSs (cxOf (L2.CX P w) P w K mg base N qual (defScope st) f cdv A outer s H E) C (Wq E) (defBody st) fb) :
    FnG P w K mg base (L2.CX P w) (k + 1) f fd ps (spOf K mg T fr io (runFn fr io (N.length - io.length) fb)) := by
  refine fnG_of F S (fun vs H Q E ⟨ad, Bar, ds, os, _, a, _⟩ => by rw [a.lens.1, hio]) fun cdv hcv A outer s H vs Q E hg hr hsp => ?_
  obtain ⟨C, h1, h2, h3⟩ := sp_body hsp
  exact ⟨_, hb cdv hcv A outer s H E C h1 h2 hg hr, h3⟩
end FL
namespace FL
open PySem PySem.Spec PyProof.Rows L2
/-- the arguments taken apart: data, the places of objects that may be changed, these objects, the places of those that are only looked at -/
def dat0 (s : Sl) (h : Hs) : Option PyData := match s with
  | .val d => some d
  | .loc n => match h[n]? with
    | some (.lst ds) => some (.list ds)
    | _ => none
  | _ => none
def flat? (o : Option Ob) : Option Ob := match o with
  | some (.lls _) => none
  | some .gone => none
  | some (.dil _ _) => none
  | some (.ins _ _) => none
  | o => o
theorem flat_some {o : Option Ob} {u : Ob} (e : flat? o = some u) : o = some u ∧ (∀ x, u ≠ .lls x) ∧ u ≠ .gone ∧ (∀ x y, u ≠ .dil x y) ∧ ∀ x y, u ≠ .ins x y := by
  unfold flat? at e
  split at e
  · cases e
  · cases e
  · cases e
  · cases e
  · rename_i z z' z'' z3
    refine ⟨e, fun x w => ?_, fun w => ?_, fun x y w => ?_, fun x y w => ?_⟩
    · subst w
      exact z x e
    · subst w
      exact z' e
    · subst w
      exact z'' x y e
    · subst w
      exact z3 x y e
def splitA : List Bool → List Sl → Hs → Option (List PyData × List Nat × Hs × List Nat)
  | [], [], _ => some ([], [], [], [])
  | false :: io, s :: ss, h => match dat0 s h, splitA io ss h with
    | some d, some (ds, ns, os, vw) => some (d :: ds, ns, os, match s with
      | .loc n => n :: vw
      | _ => vw)
    | _, _ => none
  | true :: io, .loc n :: ss, h => match flat? h[n]?, splitA io ss h with
    | some o, some (ds, ns, os, vw) => some (ds, n :: ns, o :: os, vw)
    | _, _ => none
  | _, _, _ => none
def putObs : List Nat → Hs → Hs → Hs
  | n :: ns, o :: os, h => putObs ns os (h.set n o)
  | _, _, h => h
def obNoL : Ob → Bool
  | .lls _ => false
  | .dil _ _ => false
  | .dtp _ => true
  | .dtq _ => false
  | .ins _ _ => false
  | .gone => true
  | .lst ds => noLs ds
  | .dic kvs => noLs (kvs.map (·.2))
def apartN : List Nat → List Nat → Bool
  | [], _ => true
  | n :: ns, vw => !(ns.contains n) && !(vw.contains n) && apartN ns vw
/-- a call's outcome in the caller -/
def callF (m : Fm) (io : List Bool) (fr : Bool) (ss : List Sl) (h : Hs) : Rz Sl := match splitA io ss h with
  | some (ds, ns, os, vw) => if apartN ns vw = true ∧ (vw = [] ∨ fr = true) then (match m ds os with
      | .ok d os' => if vw = [] ∨ os'.all obNoL = true then .ok (.val d) (putObs ns os' h) else .bad
      | .err x os' => if vw = [] ∨ (os'.all obNoL = true ∧ noLs (x.fs.map (·.2)) = true) then .err x (putObs ns os' h) else .bad
      | .bad => .bad) else .bad
  | none => .bad
def eCall (m : Fm) (io : List Bool) (fr : Bool) (fa : Av) : Ev := fun env h => (fa env h).bind fun ss h => callF m io fr ss h
/-- .. whose list becomes one of the def's own -/
def callN (m : Fm) (io : List Bool) (ss : List Sl) (h : Hs) : Rz Sl := match splitA io ss h with
  | some (ds, ns, os, vw) => if apartN ns vw = true then (match m ds os with
      | .ok (.list ls) os' => if os'.all obNoL = true then .ok (.loc h.length) (putObs ns os' h ++ [.lst ls]) else .bad
      | .err x os' => if vw = [] ∨ (os'.all obNoL = true ∧ noLs (x.fs.map (·.2)) = true) then .err x (putObs ns os' h) else .bad
      | _ => .bad) else .bad
  | none => .bad
def eCallN (m : Fm) (io : List Bool) (fa : Av) : Ev := fun env h => (fa env h).bind fun ss h => callN m io ss h
section
variable {K : PySem.W.Frag} {H : Hp} {M M' : Ms}
mutual
theorem Rp.noLists (t : ∀ a xs, QT K H M a xs → QT K H M' a xs) : ∀ (d : PyData) (v : V), noL d = true → Rp K H M v d → Rp K H M' v d
  | .none, _, _, h => by cases h; exact .non
  | .bool b, _, _, h => by cases h; exact .bl b
  | .int i, _, _, h => by cases h; exact .int i
  | .str x, _, _, h => by cases h; exact .str x
  | .list ds, _, e, h => by simp [noL] at e
  | .tuple ds, _, e, h => by
    cases h with
    | tup q ra => exact .tup (t _ _ q) (RpAll.noLists t ds _ (by simpa [noL] using e) ra)
  | .dict _, _, e, h => by simp [noL] at e
theorem RpAll.noLists (t : ∀ a xs, QT K H M a xs → QT K H M' a xs) : ∀ (ds : List PyData) (vs : List V), noLs ds = true → RpAll K H M vs ds → RpAll K H M' vs ds
  | [], _, _, h => by cases h; exact .nil
  | d :: ds, _, e, h => by
    have e' : noL d = true ∧ noLs ds = true := by simpa [noLs] using e
    cases h with
    | cons r ra => exact .cons (Rp.noLists t d _ e'.1 r) (RpAll.noLists t ds _ e'.2 ra)
end
end
section
variable {K : PySem.W.Frag} {C : Fc} {ρ : Fps} {H : Hp} {h : Hs}
/-- the roots of some objects -/
def Roots (ρ : Fps) (ns : List Nat) (ad : List Addr) : Prop := Paired (fun (n : Nat) (a : Addr) => ρ[n]? = some [a]) ns ad
/-- what a callee may not hand on: the caller's other objects -/
def BarOf (C : Fc) (ρ : Fps) (ad vr : List Addr) : Ms := fun b => (b ∈ ρ.flatten ∧ b ∉ ad ∧ b ∉ vr) ∨ C.Bar b
theorem ob_root {n : Nat} {fp : List Addr} {o : Ob} (S : SimH K C ρ h H) (e : ρ[n]? = some fp) (e' : h[n]? = some o) (nl : (∀ x, o ≠ .lls x) ∧ o ≠ .gone ∧ (∀ x y, o ≠ .dil x y) ∧ ∀ x y, o ≠ .ins x y) : ∃ a, fp = [a] := by
  have x := S.obj n fp o e e'
  cases o with
  | lst ds => obtain ⟨a, _, rfl, _⟩ := x; exact ⟨a, rfl⟩
  | dic ds => obtain ⟨a, _, rfl, _⟩ := x; exact ⟨a, rfl⟩
  | lls ds => exact absurd rfl (nl.1 ds)
  | dil ds ks => exact absurd rfl (nl.2.2.1 ds ks)
  | ins c fs => exact absurd rfl (nl.2.2.2 c fs)
  | dtp ks => obtain ⟨a, rfl, _⟩ := x; exact ⟨a, rfl⟩
  | dtq ks => obtain ⟨a, _, rfl, _⟩ := x; exact ⟨a, rfl⟩
  | gone => exact absurd rfl nl.2.1
/-- the roots of the objects that are handed over -/
theorem split_roots (S : SimH K C ρ h H) : ∀ {io : List Bool} {ss : List Sl} {vs : List V} {ds : List PyData} {ns : List Nat} {os : Hs} {vw : List Nat}, SlVs K C ρ H vs ss → splitA io ss h = some (ds, ns, os, vw) →
    ∃ ad vr, Roots ρ ns ad ∧ Roots ρ vw vr ∧ (∀ a ∈ vr, ∃ xs, H a = some (.lst xs)) ∧ ∀ M : Ms, (∀ b, M b → Mo C ρ b) → (∀ a ∈ vr, ¬ M a) → ArgsOk K H M io vs ds os ad
  | [], [], vs, ds, ns, os, vw, r, e => by
    have e' : some (([] : List PyData), ([] : List Nat), ([] : Hs), ([] : List Nat)) = some (ds, ns, os, vw) := e
    cases e'
    cases r
    exact ⟨[], [], .nil, .nil, fun a m => (by cases m), fun _ _ _ => .nil⟩
  | false :: io, s :: ss, vs, ds, ns, os, vw, r, e => by
    unfold splitA at e
    split at e
    · rename_i d ds' ns' os' vw' e1 e2
      cases e
      cases r with
      | cons r1 r2 =>
        obtain ⟨ad, vr, ha, hv, hl, k⟩ := split_roots S r2 e2
        cases s with
        | val d0 =>
          have ed : some d0 = some d := e1
          cases ed
          exact ⟨ad, vr, ha, hv, hl, fun M hM hn => .val (Rp.fewer hM r1) (k M hM hn)⟩
        | loc n =>
          obtain ⟨fp, a, q1, q2, rfl⟩ := r1
          have e1' : (match h[n]? with
            | some (.lst ds) => some (.list ds)
            | _ => none) = some d := e1
          split at e1'
          · rename_i ls e3
            cases e1'
            obtain ⟨q1', ws, hw, ra⟩ := S.lst q1 q2 e3
            refine ⟨ad, a :: vr, ha, .cons q1' hv, fun b hb => (List.mem_cons.mp hb).elim (fun z => ⟨ws, z ▸ hw⟩) (hl b), fun M hM hn => .val (.lst (.inl ⟨.inl hw, hn a (by simp)⟩) (ra.fewer hM)) (k M hM fun b hb => hn b (by simp [hb]))⟩
          · cases e1'
        | inn n i => cases e1
        | exn x => cases e1
        | pr _ _ => cases e1
    · cases e
  | true :: io, .loc n :: ss, vs, ds, ns, os, vw, r, e => by
    unfold splitA at e
    split at e
    · rename_i o ds' ns' os' vw' e1 e2
      cases e
      cases r with
      | cons r1 r2 =>
        obtain ⟨ad, vr, ha, hv, hl, k⟩ := split_roots S r2 e2
        obtain ⟨fp, a, q1, q2, rfl⟩ := r1
        obtain ⟨e1, nl⟩ := flat_some e1
        obtain ⟨b, rfl⟩ := ob_root S q1 e1 nl
        cases q2
        exact ⟨a :: ad, vr, .cons q1 ha, hv, hl, fun M hM hn => .obj (ObOk.fewer hM (S.obj n [a] o q1 e1)) (k M hM hn)⟩
    · cases e
  | true :: _, .val _ :: _, _, _, _, _, _, _, e => by simp [splitA] at e
  | true :: _, .inn _ _ :: _, _, _, _, _, _, _, e => by simp [splitA] at e
  | true :: _, .exn _ :: _, _, _, _, _, _, _, e => by simp [splitA] at e
  | [], _ :: _, _, _, _, _, _, _, e => by simp [splitA] at e
  | false :: _, [], _, _, _, _, _, _, e => by simp [splitA] at e
  | true :: _, [], _, _, _, _, _, _, e => by simp [splitA] at e
theorem Roots.mem {ns : List Nat} {ad : List Addr} (r : Roots ρ ns ad) : ∀ a ∈ ad, a ∈ ρ.flatten := by
  induction r with
  | nil => intro a h; cases h
  | cons e t ih =>
    intro a h
    rcases List.mem_cons.mp h with z | z
    · subst z; exact flat_at e (by simp)
    · exact ih a z
theorem Roots.ix {ns : List Nat} {ad : List Addr} (r : Roots ρ ns ad) : ∀ a ∈ ad, ∃ n ∈ ns, ρ[n]? = some [a] := by
  induction r with
  | nil => intro a h; cases h
  | @cons n b _ _ e t ih =>
    intro a h
    rcases List.mem_cons.mp h with z | z
    · subst z; exact ⟨n, by simp, e⟩
    · obtain ⟨m, hm, q⟩ := ih a z
      exact ⟨m, by simp [hm], q⟩
theorem apart_nodup (nd : ρ.flatten.Nodup) {vw : List Nat} : ∀ {ns : List Nat} {ad : List Addr}, Roots ρ ns ad → apartN ns vw = true → ad.Nodup ∧ (∀ n ∈ ns, n ∉ vw) ∧ ns.Nodup
  | [], _, .nil, _ => ⟨by simp, by simp, by simp⟩
  | n :: ns, _, .cons (b := a) e t, h => by
    have h' : ns.contains n = false ∧ vw.contains n = false ∧ apartN ns vw = true := by
      simp only [apartN, Bool.and_eq_true, Bool.not_eq_true'] at h
      exact ⟨h.1.1, h.1.2, h.2⟩
    have hn : n ∉ ns := fun m => by
      have := List.contains_iff_mem.mpr m
      rw [h'.1] at this; cases this
    have hv : n ∉ vw := fun m => by
      have := List.contains_iff_mem.mpr m
      rw [h'.2.1] at this; cases this
    obtain ⟨i1, i2, i3⟩ := apart_nodup nd t h'.2.2
    refine ⟨List.nodup_cons.mpr ⟨fun m => ?_, i1⟩, fun k hk => ?_, List.nodup_cons.mpr ⟨hn, i3⟩⟩
    · obtain ⟨j, hj, ej⟩ := Roots.ix t a m
      have := nodup_apart (a := a) nd e ej (by simp) (by simp)
      subst this
      exact hn hj
    · rcases List.mem_cons.mp hk with z | z
      · subst z; exact hv
      · exact i2 k z
theorem putObs_len : ∀ (ns : List Nat) (os : Hs) (h : Hs), (putObs ns os h).length = h.length
  | [], _, _ => rfl
  | _ :: _, [], _ => rfl
  | n :: ns, o :: os, h => by
    show (putObs ns os (h.set n o)).length = _
    rw [putObs_len ns os, List.length_set]
theorem putObs_get : ∀ {ns : List Nat} {ad : List Addr} {os : Hs} {h : Hs} {k : Nat} {o : Ob}, Roots ρ ns ad → ns.Nodup → (putObs ns os h)[k]? = some o → (k ∉ ns ∧ h[k]? = some o) ∨ (∃ (j : Nat) (a : Addr), ad[j]? = some a ∧ ρ[k]? = some [a] ∧ os[j]? = some o) ∨ os.length < ns.length
  | [], _, os, h, k, o, _, _, e => .inl ⟨by simp, e⟩
  | n :: ns, _, [], h, k, o, _, _, e => .inr (.inr (by simp))
  | n :: ns, _, o' :: os, h, k, o, .cons (b := a) q t, nd, e => by
    have e' : (putObs ns os (h.set n o'))[k]? = some o := e
    obtain ⟨nn, nd'⟩ := List.nodup_cons.mp nd
    rcases putObs_get t nd' e' with ⟨hk, e1⟩ | ⟨j, b, e1, e2, e3⟩ | hl
    · by_cases z : n = k
      · subst z
        rw [List.getElem?_set, if_pos rfl] at e1
        split at e1
        · cases e1
          exact .inr (.inl ⟨0, a, rfl, q, rfl⟩)
        · cases e1
      · rw [List.getElem?_set_ne z] at e1
        exact .inl ⟨fun m => by
          rcases List.mem_cons.mp m with w | w
          · exact z w.symm
          · exact hk w, e1⟩
    · exact .inr (.inl ⟨j + 1, b, by simpa using e1, e2, by simpa using e3⟩)
    · exact .inr (.inr (by simp; omega))
/-- tuples avoid the objects that lists are -/
theorem QT.of_lists {M M' : Ms} {H : Hp} (hl : ∀ b, M' b → M b ∨ ∃ xs, H b = some (.lst xs)) (a : Addr) (xs : List V) (q : QT K H M a xs) : QT K H M' a xs := by
  rcases q with ⟨r, n⟩ | q
  · refine .inl ⟨r, fun m => ?_⟩
    rcases hl a m with z | ⟨ys, z⟩
    · exact n z
    · rcases r with r | ⟨o, r⟩ <;> (rw [z] at r; cases r)
  · exact .inr q
theorem ObOk.noLists {M M' : Ms} {fp : List Addr} {o : Ob} {H : Hp} (t : ∀ a xs, QT K H M a xs → QT K H M' a xs) (e : obNoL o = true) (x : ObOk K H M fp o) : ObOk K H M' fp o := by
  cases o with
  | lst ds =>
    obtain ⟨a, vs, rfl, q, r⟩ := x
    exact ⟨a, vs, rfl, q, RpAll.noLists t _ _ e r⟩
  | dic kvs =>
    obtain ⟨a, vs, rfl, q, z, r⟩ := x
    exact ⟨a, vs, rfl, q, z, RpAll.noLists t _ _ e r⟩
  | lls dss => cases e
  | dil _ _ => cases e
  | dtp _ => exact x
  | dtq _ => cases e
  | ins _ _ => cases e
  | gone => exact x
theorem FrmK.nt {T : List (Addr × Str)} {ad : List Addr} {H H' : Hp} (f : FrmK T ad H H') : ∀ b o, H b = some o → b ∉ ad → NT o → H' b = some o := fun b o e n t => by
  obtain ⟨o', e', k⟩ := f.1 b o e n
  rw [e', k.nt t]
theorem FrmK.some {T : List (Addr × Str)} {ad : List Addr} {H H' : Hp} (f : FrmK T ad H H') {b : Addr} {o : HO} (e : H b = some o) (n : b ∉ ad) : ∃ o', H' b = some o' := by
  obtain ⟨o', e', _⟩ := f.1 b o e n
  exact ⟨o', e'⟩
/-- behind a call: the caller's state -/
theorem call_after {C2 : Fc} {ad vr : List Addr} {ns vw : List Nat} {os' : Hs} {H' : Hp} {D : Ms} (S : SimH K C ρ h H) (ha : Roots ρ ns ad) (hv : Roots ρ vw vr) (hvl : ∀ a ∈ vr, ∃ xs, H a = some (.lst xs)) (nd : ns.Nodup) (dj : ∀ n ∈ ns, n ∉ vw)
    (hf : FrmK C.T ad H H') (oo : OsOk K H' (Ma ad (BarOf C ρ ad vr)) ad os') (hn : vw = [] ∨ os'.all obNoL = true) (e0 : C2 = { C with Bar := fun a => C.Bar a ∨ D a }) (hD : ∀ b, D b → H b = none ∧ (∃ o, H' b = some o) ∧ os'.all obNoL = true) (hDl : ∀ b, D b → ∃ xs, H' b = some (.lst xs)) :
    SimH K C2 ρ (putObs ns os' h) H' ∧ Stp (Mo C ρ) H (Mo C2 ρ) H' := by
  have adm : ∀ b ∈ ad, b ∈ ρ.flatten := ha.mem
  have fr := hf.nt
  have lens : ns.length = ad.length := Paired.length ha
  have Mo2 : ∀ b, Mo C2 ρ b → Mo C ρ b ∨ D b := fun b m => by
    subst e0
    rcases m with m | m | m
    · exact .inl (.inl m)
    · exact .inl (.inr m)
    · exact .inr m
  have st : Stp (Mo C ρ) H (Mo C2 ρ) H' := ⟨fun b o e n => hf.1 b o e fun m => n (.inl (adm b m)), fun b m => by
    rcases Mo2 b m with m | m
    · exact .inl m
    · exact .inr (hD b m).1⟩
  have trk' : ∀ b ∈ ρ.flatten, ∃ o, H' b = some o := fun b m => by
    by_cases hb : b ∈ ad
    · obtain ⟨j, hj, ej⟩ := List.getElem_of_mem hb
      have h2 : j < os'.length := by rw [← oo.1]; exact hj
      exact (oo.2 j b os'[j] (by rw [← ej]; exact List.getElem?_eq_getElem hj) (List.getElem?_eq_getElem h2)).trk b (by simp)
    · obtain ⟨o, e⟩ := S.trk b m
      exact hf.some e hb
  refine ⟨⟨by rw [putObs_len]; exact S.len, S.nd, trk', fun k fp o e1 e2 => ?_, fun b o e n => ?_, fun b m => by subst e0; exact S.own b m, fun b m => ?_, fun b m => ?_, fun n fp e => by subst e0; exact S.pre n fp e, by subst e0; exact hf.2, fun b xs m z => ?_⟩, st⟩
  · rcases putObs_get ha nd e2 with ⟨hk, e3⟩ | ⟨j, a, q1, q2, q3⟩ | hl
    · refine ObOk.stp st (fun b m => ?_) (S.obj k fp o e1 e3)
      have nb : b ∉ ad := fun z => by
        obtain ⟨n, hn', en⟩ := ha.ix b z
        have := nodup_apart S.nd en e1 (by simp) m
        subst this
        exact hk hn'
      obtain ⟨u, eu, nu⟩ := (S.obj k fp o e1 e3).nte m
      rw [eu]
      exact fr b u eu nb nu.1
    · rw [q2] at e1
      cases e1
      have x := oo.2 j a o q1 q3
      rcases hn with hn | hn
      · subst hn
        cases hv
        by_cases hd : ∃ b, D b
        · obtain ⟨b0, hb0⟩ := hd
          refine ObOk.noLists (fun a' xs' => QT.of_lists (fun b m => ?_) a' xs') (List.all_eq_true.mp (hD b0 hb0).2.2 o (List.mem_of_getElem? q3)) x
          rcases Mo2 b m with m | m
          · rcases m with m | m
            · by_cases hb : b ∈ ad
              · exact .inl (.inl hb)
              · exact .inl (.inr (.inl ⟨m, hb, by simp⟩))
            · exact .inl (.inr (.inr m))
          · exact .inr (hDl b m)
        · refine ObOk.fewer (fun b m => ?_) x
          rcases Mo2 b m with m | m
          · rcases m with m | m
            · by_cases hb : b ∈ ad
              · exact .inl hb
              · exact .inr (.inl ⟨m, hb, by simp⟩)
            · exact .inr (.inr m)
          · exact absurd ⟨b, m⟩ hd
      · refine ObOk.noLists (fun a' xs' => QT.of_lists (fun b m => ?_) a' xs') (List.all_eq_true.mp hn o (List.mem_of_getElem? q3)) x
        rcases Mo2 b m with m | m
        · rcases m with m | m
          · by_cases hb : b ∈ ad
            · exact .inl (.inl hb)
            · by_cases hb2 : b ∈ vr
              · right
                obtain ⟨xs, ex⟩ := hvl b hb2
                exact ⟨xs, fr b _ ex hb nt_lst⟩
              · exact .inl (.inr (.inl ⟨m, hb, hb2⟩))
          · exact .inl (.inr (.inr m))
        · exact .inr (hDl b m)
    · rw [← oo.1, ← lens] at hl
      omega
  · subst e0
    obtain ⟨o1, e1, k1⟩ := S.frK b o e n
    obtain ⟨o2, e2, k2⟩ := hf.1 b o1 e1 fun m => by
      rcases S.own b (adm b m) with z | z
      · exact n z
      · rw [e] at z; cases z
    exact ⟨o2, e2, k1.trans k2⟩
  · subst e0
    rcases m with m | m
    · obtain ⟨q1, o, q2⟩ := S.bar b m
      exact ⟨q1, hf.some q2 fun z => q1 (adm b z)⟩
    · obtain ⟨q1, q2, _⟩ := hD b m
      refine ⟨fun z => ?_, q2⟩
      obtain ⟨o, e⟩ := S.trk b z
      rw [q1] at e; cases e
  · subst e0
    by_cases hb : b ∈ ad
    · exact trk' b (adm b hb)
    · obtain ⟨o, e⟩ := S.wtr b m
      exact hf.some e hb
  · subst e0
    rcases m with m | m
    · obtain ⟨q1, o, q2⟩ := S.bar b m
      obtain ⟨o', e', k⟩ := hf.1 b o q2 fun w => q1 (adm b w)
      rw [z] at e'
      cases e'
      rcases k with k | ⟨p, q, _, k⟩
      · exact S.bnt b xs m (by rw [q2, k])
      · exact xs.ntbl k
    · obtain ⟨ys, e⟩ := hDl b m
      rw [z] at e; exact xs.nlst (Option.some.inj e)
/-- the caller's bar -/
theorem bar_of (S : SimH K C ρ h H) {ad vr : List Addr} (hm : ∀ a ∈ ad, a ∈ ρ.flatten) : BarOk H ad (BarOf C ρ ad vr) := ⟨fun b m => by
  rcases m with ⟨m, n, _⟩ | m
  · exact ⟨n, S.trk b m⟩
  · exact ⟨fun z => (S.bar b m).1 (hm b z), (S.bar b m).2⟩, fun b xs m z => S.freeX z (by
  rcases m with ⟨m, _⟩ | m
  · exact .inl m
  · exact .inr m)⟩
/-- what a call wants -/
theorem sp_call {mg : Str → Option Value} {Wx : WX} {σ : St} {m : Fm} {io : List Bool} {fr : Bool} {ss : List Sl} {vs : List V} {Q : VK} (S : SimH K C ρ h H) (r : SlVs K C ρ H vs ss) (P : Po K mg C Wx σ ρ H (relE K C) (callF m io fr ss h) Q) :
    spOf K mg C.T fr io m vs H Q fun cls d H' => Wx cls d σ H' := by
  unfold callF at P
  cases e : splitA io ss h with
  | none => rw [e] at P; exact P.elim
  | some q =>
    obtain ⟨ds, ns, os, vw⟩ := q
    rw [e] at P
    dsimp only at P
    by_cases c : apartN ns vw = true ∧ (vw = [] ∨ fr = true)
    · rw [if_pos c] at P
      obtain ⟨ad, vr, ha, hv, hvl, k⟩ := split_roots S r e
      obtain ⟨nda, dj, ndn⟩ := apart_nodup S.nd ha c.1
      have adm := ha.mem
      have vdj : ∀ b ∈ vr, b ∉ ad := fun b hb z => by
        obtain ⟨n1, h1, e1⟩ := hv.ix b hb
        obtain ⟨n2, h2, e2⟩ := ha.ix b z
        have := nodup_apart (a := b) S.nd e2 e1 (by simp) (by simp)
        subst this
        exact dj n2 h2 h1
      have barv : ∀ b ∈ vr, ¬ Ma ad (BarOf C ρ ad vr) b := fun b hb z => by
        rcases z with z | ⟨_, _, z⟩ | z
        · exact vdj b hb z
        · exact z hb
        · exact (S.bar b z).1 (hv.mem b hb)
      have sub : ∀ b, Ma ad (BarOf C ρ ad vr) b → Mo C ρ b := fun b z => by
        rcases z with z | ⟨z, _, _⟩ | z
        · exact .inl (adm b z)
        · exact .inl z
        · exact .inr z
      refine ⟨ad, BarOf C ρ ad vr, ds, os, S.tab, k _ sub barv, nda, bar_of S adm, ?_⟩
      -- the other way round, where nothing is only looked at
      have sup : vw = [] → ∀ b, Mo C ρ b → Ma ad (BarOf C ρ ad vr) b := fun hw b z => by
        subst hw
        cases hv
        rcases z with z | z
        · by_cases hb : b ∈ ad
          · exact .inl hb
          · exact .inr (.inl ⟨z, hb, by simp⟩)
        · exact .inr (.inr z)
      have tups : ∀ {H' : Hp}, FrmK C.T ad H H' → ∀ a xs, QT K H' (Ma ad (BarOf C ρ ad vr)) a xs → QT K H' (Mo C ρ) a xs := fun {H'} hf => QT.of_lists fun b z => by
        rcases z with z | z
        · by_cases hb : b ∈ ad
          · exact .inl (.inl hb)
          · by_cases hb2 : b ∈ vr
            · obtain ⟨xs, ex⟩ := hvl b hb2
              exact .inr ⟨xs, hf.nt b _ ex hb nt_lst⟩
            · exact .inl (.inr (.inl ⟨z, hb, hb2⟩))
        · exact .inl (.inr (.inr z))
      cases q : m ds os with
      | bad => rw [q] at P; exact P.elim
      | ok d os' =>
        rw [q] at P
        dsimp only at P
        intro v H' hf oo rv hfr
        by_cases c2 : vw = [] ∨ os'.all obNoL = true
        · rw [if_pos c2] at P
          obtain ⟨S', st⟩ := call_after (C2 := { C with Bar := fun a => C.Bar a ∨ False }) (D := fun _ => False) S ha hv hvl ndn dj hf oo c2 rfl (fun _ z => z.elim) (fun _ z => z.elim)
          have eC : ({ C with Bar := fun a => C.Bar a ∨ False } : Fc) = C := by
            cases C
            simp
          rw [eC] at S' st
          refine P ρ v H' ⟨st, fun n fp e => ⟨fp, e, pfx_rfl⟩⟩ S' ?_
          rcases c.2 with hw | hw
          · exact Rp.fewer (sup hw) rv
          · rcases hfr hw with z | ⟨a, ws, ls, rfl, rfl, n0, e1, ra, z⟩
            · exact Rp.noLists (tups hf) d v z rv
            · refine .lst (.inl ⟨.inl e1, fun mm => ?_⟩) (RpAll.noLists (tups hf) ls ws z ra)
              obtain ⟨o, eo⟩ := S.trkM mm
              rw [n0] at eo; cases eo
        · rw [if_neg c2] at P; exact P.elim
      | err x os' =>
        rw [q] at P
        dsimp only at P
        intro H' cls d hf oo xn
        by_cases c2 : vw = [] ∨ (os'.all obNoL = true ∧ noLs (x.fs.map (·.2)) = true)
        · rw [if_pos c2] at P
          obtain ⟨S', st⟩ := call_after (C2 := { C with Bar := fun a => C.Bar a ∨ False }) (D := fun _ => False) S ha hv hvl ndn dj hf oo (c2.imp id And.left) rfl (fun _ z => z.elim) (fun _ z => z.elim)
          have eC : ({ C with Bar := fun a => C.Bar a ∨ False } : Fc) = C := by
            cases C
            simp
          rw [eC] at S' st
          refine P ρ H' cls d ⟨st, fun n fp e => ⟨fp, e, pfx_rfl⟩⟩ S' ⟨xn.1, xn.2.imp id fun ⟨nf, da, ws, h1, h2, h3, h4⟩ => ⟨nf, da, ws, h1, h2, h3, ?_⟩⟩
          rcases c2 with hw | hw
          · exact h4.fewer (sup hw)
          · exact RpAll.noLists (tups hf) _ _ hw.2 h4
        · rw [if_neg c2] at P; exact P.elim
    · rw [if_neg c] at P; exact P.elim
/-- .. whose list becomes one of the caller's own -/
theorem sp_callN {mg : Str → Option Value} {Wx : WX} {σ : St} {m : Fm} {io : List Bool} {ss : List Sl} {vs : List V} {Q : VK} (S : SimH K C ρ h H) (r : SlVs K C ρ H vs ss) (P : Po K mg C Wx σ ρ H (relE K C) (callN m io ss h) Q) :
    spOf K mg C.T true io m vs H Q fun cls d H' => Wx cls d σ H' := by
  unfold callN at P
  cases e : splitA io ss h with
  | none => rw [e] at P; exact P.elim
  | some q =>
    obtain ⟨ds, ns, os, vw⟩ := q
    rw [e] at P
    dsimp only at P
    by_cases c : apartN ns vw = true
    · rw [if_pos c] at P
      obtain ⟨ad, vr, ha, hv, hvl, k⟩ := split_roots S r e
      obtain ⟨nda, dj, ndn⟩ := apart_nodup S.nd ha c
      have adm := ha.mem
      have vdj : ∀ b ∈ vr, b ∉ ad := fun b hb z => by
        obtain ⟨n1, h1, e1⟩ := hv.ix b hb
        obtain ⟨n2, h2, e2⟩ := ha.ix b z
        have := nodup_apart (a := b) S.nd e2 e1 (by simp) (by simp)
        subst this
        exact dj n2 h2 h1
      have barv : ∀ b ∈ vr, ¬ Ma ad (BarOf C ρ ad vr) b := fun b hb z => by
        rcases z with z | ⟨_, _, z⟩ | z
        · exact vdj b hb z
        · exact z hb
        · exact (S.bar b z).1 (hv.mem b hb)
      have sub : ∀ b, Ma ad (BarOf C ρ ad vr) b → Mo C ρ b := fun b z => by
        rcases z with z | ⟨z, _, _⟩ | z
        · exact .inl (adm b z)
        · exact .inl z
        · exact .inr z
      refine ⟨ad, BarOf C ρ ad vr, ds, os, S.tab, k _ sub barv, nda, bar_of S adm, ?_⟩
      have sup : vw = [] → ∀ b, Mo C ρ b → Ma ad (BarOf C ρ ad vr) b := fun hw b z => by
        subst hw
        cases hv
        rcases z with z | z
        · by_cases hb : b ∈ ad
          · exact .inl hb
          · exact .inr (.inl ⟨z, hb, by simp⟩)
        · exact .inr (.inr z)
      have tups : ∀ {H' : Hp} {D : Ms}, (∀ b, D b → ∃ xs, H' b = some (.lst xs)) → FrmK C.T ad H H' → ∀ a xs, QT K H' (Ma ad (BarOf C ρ ad vr)) a xs → QT K H' (fun b => Mo C ρ b ∨ D b) a xs := fun {H' D} hd hf => QT.of_lists fun b z => by
        rcases z with (z | z) | z
        · by_cases hb : b ∈ ad
          · exact .inl (.inl hb)
          · by_cases hb2 : b ∈ vr
            · obtain ⟨xs, ex⟩ := hvl b hb2
              exact .inr ⟨xs, hf.nt b _ ex hb nt_lst⟩
            · exact .inl (.inr (.inl ⟨z, hb, hb2⟩))
        · exact .inl (.inr (.inr z))
        · exact .inr (hd b z)
      cases q : m ds os with
      | bad => rw [q] at P; exact P.elim
      | ok d os' =>
        rw [q] at P
        intro v H' hf oo rv hfr
        cases d with
        | list ls =>
          dsimp only at P
          by_cases c2 : os'.all obNoL = true
          · rw [if_pos c2] at P
            rcases hfr rfl with z | ⟨a, ws, ls', rfl, ed, n0, e1, ra, z⟩
            · simp [noL] at z
            · cases ed
              obtain ⟨S', st⟩ := call_after (C2 := C.plus a) (D := fun b => b = a) S ha hv hvl ndn dj hf oo (.inr c2) rfl (fun b z => by subst z; exact ⟨n0, ⟨_, e1⟩, c2⟩) (fun b z => by subst z; exact ⟨_, e1⟩)
              have ra' : RpAll K H' (Mo (C.plus a) ρ) ws ls := RpAll.fewer (fun b z => by
                rcases z with z | z | z
                · exact .inl (.inl z)
                · exact .inl (.inr z)
                · exact .inr z) (RpAll.noLists (tups (D := fun b => b = a) (fun b z => by subst z; exact ⟨_, e1⟩) hf) ls ws z ra)
              have h0 : C.H0 a = none := by
                cases q0 : C.H0 a with
                | none => rfl
                | some o =>
                  by_cases hw : a ∈ C.W.flatten
                  · obtain ⟨o', e'⟩ := S.wtr a hw
                    rw [n0] at e'; cases e'
                  · obtain ⟨o', e', _⟩ := S.frK a o q0 hw
                    rw [n0] at e'; cases e'
              have nb : ¬ C.Bar a := fun b => by
                obtain ⟨_, o, e'⟩ := S.bar a b
                rw [n0] at e'; cases e'
              have S2 := S'.adopt (ob := .lst ls) h0 nb ⟨a, ws, rfl, e1, ra'⟩
              refine P (ρ ++ [[a]]) (.ref a) H' ⟨⟨st.keepK, fun b mm => st.new b (Mo.adopt.mp mm)⟩, fun n fp e => ⟨fp, by
                rw [List.getElem?_append_left (List.getElem?_eq_some_iff.mp e).1]; exact e, pfx_rfl⟩⟩ S2 ?_
              rw [← S.len]
              exact SlV.pushed _
          · rw [if_neg c2] at P; exact P.elim
        | _ => exact P.elim
      | err x os' =>
        rw [q] at P
        dsimp only at P
        intro H' cls d hf oo xn
        by_cases c2 : vw = [] ∨ (os'.all obNoL = true ∧ noLs (x.fs.map (·.2)) = true)
        · rw [if_pos c2] at P
          obtain ⟨S', st⟩ := call_after (C2 := { C with Bar := fun a => C.Bar a ∨ False }) (D := fun _ => False) S ha hv hvl ndn dj hf oo (c2.imp id And.left) rfl (fun _ z => z.elim) (fun _ z => z.elim)
          have eC : ({ C with Bar := fun a => C.Bar a ∨ False } : Fc) = C := by
            cases C
            simp
          rw [eC] at S' st
          refine P ρ H' cls d ⟨st, fun n fp e => ⟨fp, e, pfx_rfl⟩⟩ S' ⟨xn.1, xn.2.imp id fun ⟨nf, da, ws, h1, h2, h3, h4⟩ => ⟨nf, da, ws, h1, h2, h3, ?_⟩⟩
          rcases c2 with hw | hw
          · exact h4.fewer (sup hw)
          · exact RpAll.fewer (fun b z => .inl z) (RpAll.noLists (tups (D := fun _ => False) (fun _ z => z.elim) hf) _ _ hw.2 h4)
        · rw [if_neg c2] at P; exact P.elim
    · rw [if_neg c] at P; exact P.elim
end
section
variable {X : Cx} {C : Fc} {Wx : WX} {k : Nat} {f : Addr} {fd : FuncData} {ps : List Str} {m : Fm} {io : List Bool} {fr : Bool} {x : Str} {p pos : Pos} {e : Expr} {es : List Expr} {fa : Av}
theorem run_fnG {pins : List (Addr × Obj)} {σ : St} {H : Hp} {s : Shared} {Q : VK} {us : List Value} {vs : List V} {sp : Sp} (F : FnG X.prog X.w X.K X.mg X.base (L2.CX X.prog X.w) k f fd ps sp) (hgd : X.A.guards = some []) (hr : Room k X.A) (hb : Binds X.K fd ps []) (tk : Takes X Wx)
    (I : Inv X pins σ H s) (r : Vals vs us) (h : sp vs H Q fun cls d H' => Wx cls d σ H') : wpAny (model X.prog X.w) X.A (call (.ref f) us) (EP X pins σ Q) X.xe s := by
  have hl : us.length = ps.length := by rw [← r.length]; exact F.len _ _ _ _ h
  have b := hb s us I.kIn (by rw [List.append_nil]; exact hl)
  rw [List.append_nil] at b
  refine wpAny_call (codeAny_mono (F.run X.A X.stack s H ⟨us, []⟩ us vs Q _ hgd hr I.env0 b r h) ?_)
  rintro (er | fl) s' hq
  · exact tk _ s' (XE.of_call I (fun _ _ _ w => w) hq)
  · cases fl with
    | ret u => exact I.after hq
    | _ => exact False.elim hq
theorem fe_callG {g : List Sl → Hs → Rz Sl} {sp : Sp} (F : FnG X.prog X.w X.K X.mg X.base (L2.CX X.prog X.w) k f fd ps sp) (hgd : X.A.guards = some []) (hr : Room k X.A) (tk : Takes X Wx) (hg : Gl X x) (hm : X.mg x = some (.ref f)) (hk : PySem.W.keepIn X.K (.ref f) = true) (hb : Binds X.K fd ps [])
    (ha : FA X C Wx (e :: es) fa) (hsp : ∀ (σ : St) (ρ : Fps) (h : Hs) (H : Hp) (ss : List Sl) (vs : List V) (Q : VK), SimH X.K C ρ h H → SlVs X.K C ρ H vs ss → Po X.K X.mg C Wx σ ρ H (relE X.K C) (g ss h) Q → sp vs H Q fun cls d H' => Wx cls d σ H')
    (hdb : (x == ("__debug__" : Str)) = false := by decide) (he : starEach (e :: es) X.env = (false, eval e X.env) :: starEach es X.env := by rfl) (hpl : (backTo pos (starEach es X.env)).any (·.1) = false := by rfl) :
    FE X C Wx (.Call (.Name x p) (e :: es) [] pos) (fun env h => (fa env h).bind fun ss h => g ss h) := by
  refine ⟨fun pins s σ H Q I hh => wpAny_Call_Name_kw (ld_glob I hg hm ?_ hdb)⟩
  have h2 : rd X.K X.mg C Wx (relA X.K C) fa σ H fun vs H1 => sp vs H1 Q fun cls d H' => Wx cls d σ H' := rd.bind (f := fa) (g := fun ss _ h => g ss h) hh fun ρ1 env h1 ss vs H1 S1 E1 r1 P1 => hsp σ ρ1 h1 H1 ss vs Q S1 r1 P1
  refine PySem.W.callWith_K (h₀ := X.base) I.ok.mod.kin hk (thn (ha.run pos pins s σ H _ I h2) ?_) he hpl
  rintro us s1 ⟨vs, H1, I1, r, q⟩
  exact ⟨I1.kIn, run_fnG F hgd hr hb tk I1 r q⟩
theorem fe_call {T : List (Addr × Str)} (F : FnG X.prog X.w X.K X.mg X.base (L2.CX X.prog X.w) k f fd ps (spOf X.K X.mg T fr io m)) (hT : C.T = T) (hgd : X.A.guards = some []) (hr : Room k X.A) (tk : Takes X Wx) (hg : Gl X x) (hm : X.mg x = some (.ref f)) (hk : PySem.W.keepIn X.K (.ref f) = true) (hb : Binds X.K fd ps [])
    (ha : FA X C Wx (e :: es) fa) (hdb : (x == ("__debug__" : Str)) = false := by decide) (he : starEach (e :: es) X.env = (false, eval e X.env) :: starEach es X.env := by rfl) (hpl : (backTo pos (starEach es X.env)).any (·.1) = false := by rfl) :
    FE X C Wx (.Call (.Name x p) (e :: es) [] pos) (eCall m io fr fa) := fe_callG F hgd hr tk hg hm hk hb ha (fun σ ρ h H ss vs Q S r P => hT ▸ sp_call S r P) hdb he hpl
theorem fe_callN {T : List (Addr × Str)} (F : FnG X.prog X.w X.K X.mg X.base (L2.CX X.prog X.w) k f fd ps (spOf X.K X.mg T true io m)) (hT : C.T = T) (hgd : X.A.guards = some []) (hr : Room k X.A) (tk : Takes X Wx) (hg : Gl X x) (hm : X.mg x = some (.ref f)) (hk : PySem.W.keepIn X.K (.ref f) = true) (hb : Binds X.K fd ps [])
    (ha : FA X C Wx (e :: es) fa) (hdb : (x == ("__debug__" : Str)) = false := by decide) (he : starEach (e :: es) X.env = (false, eval e X.env) :: starEach es X.env := by rfl) (hpl : (backTo pos (starEach es X.env)).any (·.1) = false := by rfl) :
    FE X C Wx (.Call (.Name x p) (e :: es) [] pos) (eCallN m io fa) := fe_callG F hgd hr tk hg hm hk hb ha (fun σ ρ h H ss vs Q S r P => hT ▸ sp_callN S r P) hdb he hpl
end
end FL
namespace FL
open PySem PySem.Spec PyProof.Rows L2
/-- the script and empty tables are tracked -/
def headH (a : Addr) (scr : Option HO) (ts : List Addr) : Hp := fun b => if b = a then scr else if b ∈ ts then some (.tbl #[]) else none
theorem headH_some {a b : Addr} {scr : Option HO} {ts : List Addr} {u : HO} (na : a ∉ ts) (e : headH a scr ts b = some u) : (b = a ∧ scr = some u) ∨ (b ∈ ts ∧ u = .tbl #[]) := by
  unfold headH at e
  split at e
  · rename_i hb
    exact .inl ⟨hb, e⟩
  · split at e
    · rename_i hb
      cases e
      exact .inr ⟨hb, rfl⟩
    · cases e
theorem headH_tab {a b : Addr} {scr : Option HO} {ts : List Addr} (na : a ∉ ts) (hb : b ∈ ts) : headH a scr ts b = some (.tbl #[]) := by
  unfold headH
  rw [if_neg (fun z : b = a => na (z ▸ hb)), if_pos hb]
theorem rp_ints {K : PySem.W.Frag} {H : Hp} {M : Ms} : ∀ ns : List Int, RpAll K H M (ns.map V.int) (ns.map PyData.int)
  | [] => .nil
  | n :: r => .cons (.int n) (rp_ints r)
/-- what the head tells of the tables -/
structure TabsAt (h : Heap) (K : PySem.W.Frag) (cs : List (Addr × Addr)) : Prop where
  at_ : ∀ p ∈ cs, h.get? p.2 = some { cls := .none, data := .fields #[] }
  noK : ∀ p ∈ cs, K.lookup p.2 = none
  code : ∀ p ∈ cs, PySem.W.CodeHd h p.1 p.2
/-- the run of the law from a state in which no more than the script and the tables are tracked -/
theorem lawG_core {P : Program} {w : World} {K : PySem.W.Frag} {mg mb : Str → Option Value} {k : Nat} {fa a : Addr} {fd : FuncData} {x : Str} {fr : Bool} {m : Fm} {s : Shared} {vs : List Value} {ns : List Int} {cs : List (Addr × Addr)} {T : List (Addr × Str)} {scr : Option HO}
    (hscr : ∀ u, scr = some u → ∃ o, u = .frz o (.lst (ns.map V.int)) ∧ K.lookup a = none) (hq : QL K (headH a scr (cs.map (·.2))) (fun _ => False) a (ns.map V.int)) (hok : HOk P w (headH a scr (cs.map (·.2))) s.heap)
    (KX : K.In s.heap) (hns : s.heap.Ns mainGlobals mg) (hb : s.heap.Ns builtinsNs mb) (hbb : ∀ x : Str, x ≠ "__name__" → mb x = bootBuiltins x) (hlim : s.heap.NoLimit) (hdig : s.heap.NoDigits) (hg : s.gens = #[])
    (hbm : ∃ (bm : Addr) (ob : Obj), mg "__builtins__" = some (.ref bm) ∧ bm ≠ builtinsNs ∧ s.heap.get? bm = some ob ∧ ob.cls = .type "module" ∧ ob.dict = some builtinsNs ∧ ob.data = .plain)
    (Tt : TabsAt s.heap K cs) (hT : ∀ p ∈ T, p.1 ∈ cs.map (·.2))
    (ha : s.heap.get? a = some { cls := .type "list", data := .seq vs.toArray }) (hr : Room k callerA)
    (F : ∀ base : Heap, K.In base → base.Ns mainGlobals mg → base.NoDigits → (∀ p ∈ cs, LamX.TabB base mg p.1 p.2) → FnG P w K mg base (L2.CX P w) k fa fd [x] (spOf K mg T fr [false] m)) (hbind : ∀ (s : Shared) (u : Value), BindsTo s fd ⟨[u], []⟩ [(x, u)])
    (hm : ∃ h', m [.list (ns.map PyData.int)] [] = .ok (.bool true) h') :
    codeAny (model P w) callerA (.call (.ref fa) ⟨[.ref a], []⟩) (fun r s' => r = .ok (.ret (.bool true)) ∧ OldK s.heap s'.heap ∧ s'.os = s.os ∧ AllBare s'.gens) s := by
  have tabAt : ∀ b ∈ cs.map (·.2), s.heap.get? b = some { cls := .none, data := .fields #[] } := fun b m => by
    obtain ⟨p, hp, rfl⟩ := List.mem_map.mp m
    exact Tt.at_ p hp
  have na : a ∉ cs.map (·.2) := fun z => by
    have q := tabAt a z
    rw [ha] at q
    cases (show Data.seq vs.toArray _ = Data.fields #[] from congrArg Obj.data (Option.some.inj q))
  generalize eH : headH a scr (cs.map (·.2)) = H at *
  have cases_ : ∀ {b : Addr} {u : HO}, H b = some u → (b = a ∧ scr = some u) ∨ (b ∈ cs.map (·.2) ∧ u = .tbl #[]) := fun {b u} e => by
    rw [← eH] at e
    exact headH_some na e
  have hid : ∀ {b : Addr} {u : Obj}, s.heap.get? b = some u → (∀ vs n, u.data ≠ .seq vs n) → u.data ≠ .fields #[] → H b = none := fun {b u} e h1 h2 => by
    cases q : H b with
    | none => rfl
    | some z =>
      rcases cases_ q with ⟨rfl, _⟩ | ⟨hb, _⟩
      · rw [ha] at e
        cases e
        exact absurd rfl (h1 _ _)
      · rw [tabAt b hb] at e
        cases e
        exact absurd rfl h2
  have plain : ∀ {b : Addr} {u : Obj} {es : Array DictEntry} {ep : Nat}, s.heap.get? b = some u → u.data = .dict es ep → H b = none := fun e d => hid e (fun _ _ z => by rw [d] at z; cases z) fun z => by rw [d] at z; cases z
  have nsK : ∀ {b : Addr} {mm : Str → Option Value}, s.heap.Ns b mm → (hidT s.heap H).Ns b mm := by
    rintro b mm ⟨u, es, ep, e, d, r⟩
    exact ⟨u, es, ep, hidT_get e (plain e d), d, r⟩
  have kb : K.In (hidT s.heap H) := by
    intro b u e
    refine hidT_get (KX b u e) ?_
    cases q : H b with
    | none => rfl
    | some z =>
      rcases cases_ q with ⟨rfl, hz⟩ | ⟨hb, _⟩
      · obtain ⟨_, _, hk⟩ := hscr z hz
        rw [hk] at e
        cases e
      · obtain ⟨p, hp, rfl⟩ := List.mem_map.mp hb
        rw [Tt.noK p hp] at e
        cases e
  obtain ⟨mc, l1, l2⟩ := hlim
  obtain ⟨mc2, l3, l4⟩ := hdig
  have md : Mod K mg (hidT s.heap H) := { kin := kb, glob := nsK hns, blt := ⟨mb, nsK hb, hbb⟩, nolimit := ⟨mc, nsK l1, l2⟩ }
  have TB : ∀ p ∈ cs, LamX.TabB (hidT s.heap H) mg p.1 p.2 := fun p hp => by
    refine { code := ?_, bm := ?_, gP := fun z => ?_ }
    · obtain ⟨o, us, file, tf, flags, tg, inF, text, tt, e1, r1, r2, r3, rest⟩ := Tt.code p hp
      exact ⟨o, us, file, tf, flags, tg, inF, text, tt, hidT_get e1 (hid e1 (fun _ _ z => by rw [r2] at z; cases z) fun z => by
        rw [r2] at z
        cases z
        simp at r3), r1, r2, r3, rest⟩
    · obtain ⟨bm, ob, b1, b2, b3, b4, b5, b6⟩ := hbm
      refine ⟨bm, ob, b1, b2, fun q => ?_, fun q => ?_, hidT_get b3 (hid b3 (fun _ _ z => by rw [b6] at z; cases z) fun z => by rw [b6] at z; cases z), b4, b5, b6⟩
      · obtain ⟨o, es, ep, e, hd, _⟩ := hns
        rw [q, e] at b3
        cases b3
        rw [hd] at b6
        cases b6
      · rw [q, Tt.at_ p hp] at b3
        cases b3
        cases b6
    · obtain ⟨o, es, ep, e, hd, _⟩ := hns
      rw [z, Tt.at_ p hp] at e
      cases e
      cases hd
  have e0 : Env0 P w K mg (hidT s.heap H) callerA [] s H := { frames := rfl, mod := md, bs := fun b u e => of_hidT e, bsz := Nat.le_of_eq (hidT_size _ _), funs := trivial, frf := fun b z => (nomatch z), hok := hok, bare := .of_eq hg }
  obtain ⟨h', em⟩ := hm
  have tabs : LamX.Tabs T H := fun p hp => LamX.TabS.nil (by rw [← eH]; exact headH_tab na (hT p hp))
  have sp : spOf K mg T fr [false] m [.ref a] H (fun v _ => v = .bl true) fun _ _ _ => False := by
    refine ⟨[], fun _ => False, [.list (ns.map PyData.int)], [], tabs, .val (.lst (QL.fewer (fun _ z => ?_) hq) (rp_ints ns)) .nil, by simp, ⟨fun _ z => z.elim, fun _ _ z => z.elim⟩, ?_⟩
    · rcases z with z | z
      · cases z
      · exact z
    rw [em]
    intro v H' _ _ r _
    cases r
    rfl
  refine codeAny_mono ((F _ kb (nsK hns) ⟨mc2, nsK l3, l4⟩ TB).run callerA [] s H ⟨[.ref a], []⟩ [.ref a] [.ref a] _ _ rfl hr e0 (hbind s (.ref a)) (.cons rfl .nil) sp) ?_
  rintro (er | fl) s' hq'
  · obtain ⟨_, _, _, _, _, _, _, _, _, _, _, _, z⟩ := hq'
    exact z.elim
  · cases fl with
    | ret u =>
      obtain ⟨v, H', os, bare, un, hok', r', q⟩ := hq'
      cases (show v = .bl true from q)
      cases (show u = Value.bool true from r')
      have same : ∀ b ob, b ∉ cs.map (·.2) → s.heap.get? b = some ob → s'.heap.get? b = some ob := fun b ob nb e => by
        cases q : H b with
        | none => exact un.keep b ob e q (fun z => nomatch z) (fun z => nomatch z)
        | some z =>
          rcases cases_ q with ⟨rfl, hz⟩ | ⟨hb, _⟩
          · obtain ⟨o, rfl, _⟩ := hscr z hz
            have e1 := (hok b _ q).1
            rw [e] at e1
            cases e1
            exact (hok' b _ (un.frzs b _ _ q)).1
          · exact absurd hb nb
      have more : ∀ p ∈ cs, ∃ mo : Array Value, s'.heap.get? p.2 = some { cls := .none, data := .fields mo } := fun p hp => by
        obtain ⟨mo, z⟩ := un.tbls p.2 #[] (by rw [← eH]; exact headH_tab na (List.mem_map.mpr ⟨p, hp, rfl⟩))
        exact ⟨_, hok' p.2 _ z⟩
      refine ⟨rfl, ⟨fun b ob e => ?_, fun b ob e => ?_⟩, os, bare⟩
      · by_cases hb : b ∈ cs.map (·.2)
        · obtain ⟨p, hp, rfl⟩ := List.mem_map.mp hb
          obtain ⟨mo, hmo⟩ := more p hp
          rw [Tt.at_ p hp] at e
          cases e
          exact .inr (.inl ⟨((Tt.code p hp).tab (Tt.at_ p hp)).isCodeTable, rfl, #[], mo, rfl, by rw [Array.empty_append]; exact hmo⟩)
        · exact .inl (same b ob hb e)
      · by_cases hb : b ∈ cs.map (·.2)
        · obtain ⟨p, hp, rfl⟩ := List.mem_map.mp hb
          obtain ⟨mo, hmo⟩ := more p hp
          exact ⟨_, hmo⟩
        · exact ⟨ob, same b ob hb e⟩
    | _ => exact False.elim hq'
theorem walkG {l : PySem.W.OpenLaw} {n k : Nat} {q : Program} {loose : List Str} {XP : (Str → Option Value) → Heap → Prop} {YP : World → Heap → Prop} {d : DefRec} {K : Params → PySem.W.Frag} {x : Str} {fr : Bool} {m : Fm}
    (hn : l.most = some n) (hn2 : n ≤ sizeLine) (hdf : d.params.defaults = []) (hr : Room k callerA) (hY : ∀ (w : World) (h : Heap), YP w h → (K w.params).In h)
    (F : ∀ (w : World) (mg mb : Str → Option Value) (mean : ExcName → Option Value) (fa : Addr) (h : Heap), YP w h → (K w.params).In h → PyProof.Rows.Top q (PySem.W.looseW q loose) mean mg mb h → mg d.name = some (.ref fa) →
      ∃ (fd : FuncData) (cs : List (Addr × Addr)) (T : List (Addr × Str)), (∀ (s : Shared) (u : Value), BindsTo s fd ⟨[u], []⟩ [(x, u)]) ∧ TabsAt h (K w.params) cs ∧ (∀ p ∈ T, p.1 ∈ cs.map (·.2)) ∧
        ∀ base : Heap, (K w.params).In base → base.Ns mainGlobals mg → base.NoDigits → (∀ p ∈ cs, LamX.TabB base mg p.1 p.2) → FnG l.prog w (K w.params) mg base (L2.CX l.prog w) k fa fd [x] (spOf (K w.params) mg T fr [false] m))
    (hm : ∀ ns : List Int, ns.length ≤ n → ∃ h', m [.list (ns.map PyData.int)] [] = .ok (.bool true) h') : PySem.W.WalkO q loose XP YP l.row.toRowW d [] (fun f vs => PySem.call f vs) := by
  refine Att.attach_call hn hdf ?_
  intro w s0 s mg mb fa o pm cd doc a vs ns G Y ho hd hcd hmg hobj hints hlen hg
  have KX := hY w _ Y
  obtain ⟨fd, cs, T, hb, Tt, hT, hF⟩ := F w mg mb _ fa _ Y KX G.T hmg
  have rv := vals_ints hints
  have lenV := hints.length
  have hl : ns.length ≤ sizeLine := Nat.le_trans hlen hn2
  have tabOk : ∀ b ∈ cs.map (·.2), s.heap.get? b = some { cls := .none, data := .fields #[] } := fun b mm => by
    obtain ⟨p, hp, rfl⟩ := List.mem_map.mp mm
    exact Tt.at_ p hp
  have na : a ∉ cs.map (·.2) := fun z => by
    have q := tabOk a z
    rw [hobj] at q
    cases (show Data.seq vs.toArray _ = Data.fields #[] from congrArg Obj.data (Option.some.inj q))
  cases hk : (K w.params).lookup a with
  | some u =>
    have e := KX a u hk
    rw [hobj] at e
    cases e
    refine lawG_core (scr := none) (ns := ns) (cs := cs) (T := T) (fun u e => by cases e) (.inr ⟨vs.toArray, _, hk, by rw [List.size_toArray, lenV]; exact hl, by simpa using rv⟩) (fun b z e => ?_) KX G.T.g G.T.b G.T.builtins G.T.nolimit G.T.nodigits hg G.T.bmain Tt hT hobj hr hF hb (hm ns hlen)
    rcases headH_some na e with ⟨_, z'⟩ | ⟨hb', rfl⟩
    · cases z'
    · exact tabOk b hb'
  | none =>
    refine lawG_core (scr := some (.frz { cls := .type "list", data := .seq vs.toArray } (.lst (ns.map V.int)))) (ns := ns) (cs := cs) (T := T) (fun u e => by cases e; exact ⟨_, rfl, hk⟩) (.inl ⟨.inr ⟨_, if_pos rfl⟩, fun z => z⟩) (fun b z e => ?_) KX G.T.g G.T.b G.T.builtins G.T.nolimit G.T.nodigits hg G.T.bmain Tt hT hobj hr hF hb (hm ns hlen)
    rcases headH_some na e with ⟨rfl, z'⟩ | ⟨hb', rfl⟩
    · cases z'
      exact ⟨hobj, by rw [List.length_map]; exact hl, vs, _, rv, hobj⟩
    · exact tabOk b hb'
end FL
namespace FL
open PySem PySem.Spec PyProof.Rows L2
def gNeg : Sl → Hs → Option PyData := fun s _ => match s with
  | .val (.int i) => some (.int (-i))
  | _ => none
def gRev : Sl → Hs → Option PyData := fun s h => match s with
  | .val (.tuple ds) => some (.tuple ds.reverse)
  | s => (litems s h).map fun ds => .list ds.reverse
section
variable {prog : Program} {w : World} {A : Around} {E : Value → Shared → Prop} {s : Shared}
theorem applied_back {sl : Addr} {vl vu vk : Value} {n : Nat} {Q : Int × Int × Nat → Shared → Prop} (hs : s.heap.IsSliceOf sl vl vu vk) (pl : IsPart vl none) (pu : IsPart vu none) (pk : IsPart vk (some (-1)))
    (h : Q ((n : Int) - 1, -1, n) s) : wpAny (model prog w) A (Builtin.Slice.sliceApplied (.ref sl) (pure (n : Int))) Q E s := by
  obtain ⟨os, hos, hcs, hds⟩ := id hs
  unfold Builtin.Slice.sliceApplied Builtin.Slice.sliceFields
  refine wpAny_bind (wpAny_bind (wpAny_field hos hds (x := vl) rfl (wpAny_bind (wpAny_field hos hds (x := vu) rfl (wpAny_bind (wpAny_field hos hds (x := vk) rfl (wpAny_pure ?_)))))))
  refine wpAny_bind (HT.slicePart_ pk ?_)
  show wpAny _ _ (if ((-1 : Int) == 0) = true then _ else _) _ _ s
  rw [if_neg (by decide)]
  refine wpAny_bind (HT.slicePart_ pl (wpAny_bind (HT.slicePart_ pu (wpAny_bind (wpAny_pure ?_)))))
  have e : Builtin.Slice.slicePlaces ((n : Int) - 1) (-1) (-1) = n := by
    unfold Builtin.Slice.slicePlaces
    rw [if_neg (by decide), show (- -1 : Int) = 1 from rfl, Int.ediv_one]
    split <;> omega
  show wpAny _ _ (pure ((n : Int) - 1, (-1 : Int), Builtin.Slice.slicePlaces ((n : Int) - 1) (-1) (-1))) _ _ s
  rw [e]
  exact wpAny_pure h
theorem pick_back (xs : List Value) : ((List.range xs.length).filterMap fun (m : Nat) => xs.toArray[(((xs.length : Int) - 1) + (m : Int) * -1).toNat]?) = xs.reverse := by
  have key : ∀ k, k ≤ xs.length → ((List.range k).filterMap fun (m : Nat) => xs.toArray[(((xs.length : Int) - 1) + (m : Int) * -1).toNat]?) = xs.reverse.take k := by
    intro k
    induction k with
    | zero => intro _; simp
    | succ k ih =>
      intro hk
      rw [List.range_succ, List.filterMap_append, ih (by omega), List.take_add_one]
      congr 1
      have e1 : (((xs.length : Int) - 1) + (k : Int) * -1).toNat = xs.length - 1 - k := by omega
      have h2 : xs.length - 1 - k < xs.length := by omega
      rw [List.getElem?_reverse (by omega)]
      simp only [List.filterMap_cons, List.filterMap_nil, e1, List.getElem?_toArray]
      rw [List.getElem?_eq_getElem h2]
      rfl
  rw [key xs.length (Nat.le_refl _)]
  rw [List.take_of_length_le (by simp)]
theorem getItem_tuple_back {t sl : Addr} {items : List Value} {vl vu vk : Value} {Q : Value → Shared → Prop} (ht : IsTup s.heap t items.toArray) (hs : s.heap.IsSliceOf sl vl vu vk) (pl : IsPart vl none) (pu : IsPart vu none) (pk : IsPart vk (some (-1))) (hsz : items.length ≤ sizeLine)
    (h : Q (.ref s.heap.objs.size) { s with heap := s.heap.push { cls := .type "tuple", data := .seq items.reverse.toArray } }) : wpAny (model prog w) A (getItem (.ref t) (.ref sl)) Q E s := by
  obtain ⟨os, hos, hcs, hds⟩ := id hs
  have tys : s.TypeIs (.ref sl) "slice" := ⟨os, hos, hcs⟩
  have sz : sizeOk (.seq items.reverse.toArray) := by
    show items.reverse.toArray.size ≤ sizeLine
    simpa using hsz
  unfold getItem
  try with_reducible refine wpAny_holding ?_
  first | refine wpAny_bind (wpAny_pure ?_) | skip
  refine wpAny_bind (wpAny_sequenceKey ht.typeIs (by decide) ?_)
  refine wpAny_bind (wpAny_callSpecial?_slot (name := Str.ofString "__getitem__") ht.typeIs PyProof.Rows.slot_tuple_getitem (wpAny_call_entry PyProof.Rows.slot_tuple_getitem ht.typeIs entry_tuple_getitem ?_ (args_tuple_getitem _ _)))
  show wpAny _ _ (Builtin.Tuple.tupleItemsOf (.ref t) >>= _) _ _ s
  refine wpAny_bind (tupleItemsOf_ ht (wpAny_bind (wpAny_typeOf tys ?_)))
  rw [if_pos (by decide)]
  refine wpAny_bind ?_
  rw [List.size_toArray]
  refine applied_back hs pl pu pk ?_
  have no : ¬ ((((items.length : Int) - 1) == 0 && (-1 : Int) == 1 && items.length == items.toArray.size) = true) := by simp
  show wpAny _ _ (if ((((items.length : Int) - 1) == 0 && (-1 : Int) == 1 && items.length == items.toArray.size) = true) then _ else _) _ _ s
  rw [if_neg no, pick_back]
  first
    | exact wpAny_bind (m := Builtin.Tuple.tupleExact _) (wpAny_newObj_type (wpAny_pure ⟨_, rfl, wpAny_pure h⟩) sz)
    | exact wpAny_bind (m := Builtin.Tuple.tupleExact _) (wpAny_newObj_type (wpAny_bind (wpAny_pure (wpAny_pure ⟨_, rfl, wpAny_pure h⟩))) sz)
    | exact wpAny_bind (wpAny_bind (m := Builtin.Tuple.tupleExact _) (wpAny_newObj_type (wpAny_pure (wpAny_pure ⟨_, rfl, wpAny_pure h⟩)) sz))
    | exact wpAny_bind (wpAny_bind (m := Builtin.Tuple.tupleExact _) (wpAny_newObj_type (wpAny_pure ⟨_, rfl, wpAny_pure h⟩) sz))
end
section
variable {X : Cx} {C : Fc} {Wx : WX} {e : Expr} {f : Ev} {k : Nat} {p1 p2 p3 pos : Pos}
theorem u_neg : UnR X (unaryOp .USub) (rd1 X.K C gNeg) := UnR.imp un_neg fun x H Q ⟨ρ, h, s, d, S, r, e, k⟩ => by
  unfold gNeg at e
  split at e
  · rename_i i
    cases (show Rp X.K H (Mo C ρ) x (.int i) from r)
    cases e
    exact ⟨i, rfl, k _ H (Ex.refl _ _ _) S (.int _)⟩
  · cases e
/-- x[::-1] of a tuple -/
def tRevT (K : PySem.W.Frag) (te : TE) : TE := fun σ H Q => te σ H fun x H1 => ∃ a xs, x = .ref a ∧ SqT K H1 a xs ∧ ∀ p, H1 p = none → Q (.ref p) (upd H1 p (.tup xs.reverse))
theorem pe_revT {te : TE} (he : PE X e te) : PE X (.Subscript e (.Slice none none (some (.UnaryOp .USub (.Constant (.int 1) k p1) p2)) p3) pos) (tRevT X.K te) := by
  constructor
  intro pins s σ H Q I h
  refine Subscript_ (thn (he.run pins s σ H _ I h) ?_)
  rintro v s1 ⟨x, H1, I1, r1, a, xs, rfl, hx, q⟩
  cases r1
  have st : PO X (some (.UnaryOp .USub (.Constant (.int 1) k p1) p2)) (tPart (tUn (rU fun i => .int (-i)) (tC (.int 1)))) := po_some (pe_un un_neg pe_int)
  refine wpAny_Slice (thn (po_none.run pins s1 σ H1 (fun o H2 => o = none ∧ H2 = H1) I1 ⟨rfl, rfl⟩) ?_)
  rintro vl s2 ⟨l, H2, I2, pl, rfl, rfl⟩
  refine thn (po_none.run pins s2 σ _ (fun o H3 => o = none ∧ H3 = H2) I2 ⟨rfl, rfl⟩) ?_
  rintro vu s3 ⟨u, H3, I3, pu, rfl, rfl⟩
  refine thn (st.run pins s3 σ _ (fun o H4 => o = some (-1) ∧ H4 = H3) I3 ⟨1, rfl, -1, rfl, rfl, rfl⟩) ?_
  rintro vs s4 ⟨o, H4, I4, ps, rfl, rfl⟩
  have I5 : Inv X pins σ H4 { s4 with heap := s4.heap.push { cls := .type "slice", data := .fields #[vl, vu, vs] } } := I4.kept (t' := s4.toks) fun b ob q => Heap.get?_push_of_some _ q
  obtain ⟨its, r, ht, hz⟩ := I5.tuple hx
  have hlen := r.length
  show wpAny (model X.prog X.w) X.A (subscriptTail e _ (.ref a) (.ref s4.heap.objs.size)) (EP X pins σ Q) X.xe { s4 with heap := s4.heap.push { cls := .type "slice", data := .fields #[vl, vu, vs] } }
  refine tail_any (ops := [.ref a, .ref s4.heap.objs.size]) ht.typeIs (PyProof.Rows.slot_tuple_getitem.lookup) ?_ (by with_unfolding_all rfl)
  refine getItem_tuple_back ht (Heap.IsSliceOf.new _ vl vu vs) pl pu ps (by omega) ?_
  exact ⟨.ref _, _, I5.laid (t' := s4.toks) (o := .tup xs.reverse) (fun b ob q => Heap.get?_push_of_some _ q) (Nat.le_refl _) ⟨by rw [List.length_reverse]; exact hz, _, r.reverse, ⟨_, Heap.get?_push_size _ rfl, rfl, _, rfl⟩⟩, rfl, q _ (I5.hok.fresh (Nat.le_refl _))⟩
theorem PE.two {t t' u : TE} (h : PE X e t) (h' : PE X e t') (i : ∀ σ H Q, u σ H Q → t σ H Q ∨ t' σ H Q) : PE X e u := ⟨fun pins s σ H Q I q => by
  rcases i σ H Q q with z | z
  · exact h.run pins s σ H Q I z
  · exact h'.run pins s σ H Q I z⟩
theorem fe_rev (he : FE X C Wx e f) : FE X C Wx (.Subscript e (.Slice none none (some (.UnaryOp .USub (.Constant (.int 1) k p1) p2)) p3) pos) (cUn gRev f) := by
  refine PE.two (pe_revT he) (pe_revL he) fun σ H Q p => ?_
  obtain ⟨ρ, env, h, S, E, P⟩ := id p
  have P' : Po X.K X.mg C Wx σ ρ H (relE X.K C) ((f env h).bind fun s h => .give (gRev s h) h) Q := P
  cases q : f env h with
  | bad => rw [q] at P'; exact P'.elim
  | err y h1 => rw [q] at P'; exact .inl ⟨ρ, env, h, S, E, by rw [q]; exact P'⟩
  | ok s h1 =>
    rw [q] at P'
    by_cases ht : ∃ ds, s = .val (.tuple ds)
    · obtain ⟨ds, rfl⟩ := ht
      refine .inl ⟨ρ, env, h, S, E, ?_⟩
      rw [q]
      intro ρ1 v H1 x1 S1 r1
      cases (show Rp X.K H1 (Mo C ρ1) v (.tuple ds) from r1) with
      | tup qq ra => exact ⟨_, _, rfl, qq.sq, fun p hp => P' ρ1 _ _ (x1.trans (Ex.laid S1 hp)) (S1.laid hp) (Rp.newTup S1 hp ra.rev)⟩
    · refine .inr ⟨ρ, env, h, S, E, ?_⟩
      rw [q]
      intro ρ1 v H1 x1 S1 r1
      have eg : gRev s h1 = (litems s h1).map fun ds => .list ds.reverse := by
        unfold gRev
        split
        · exact absurd ⟨_, rfl⟩ ht
        · rfl
      obtain ⟨d, e1, kk⟩ := (Po.ex x1 P').given
      rw [eg] at e1
      obtain ⟨ds, e2, rfl⟩ := map_some e1
      obtain ⟨a, vs, rfl, sq, ra⟩ := litems_rel S1 r1 e2
      exact ⟨a, vs, rfl, sq, fun p hp => kk _ _ (Ex.laid S1 hp) (S1.laid hp) (Rp.newLst S1 hp ra.rev)⟩
end
end FL
namespace FL
open PySem PySem.Spec PyProof.Rows L2
section
variable {env e : En} {h h' : Hs} {f g f1 f2 f3 : Ev} {a : Av} {s t u : Sl} {ss : List Sl} {c d : Tv} {p q : Sv} {x : PyData} {y : Exn}
@[simp] theorem v_bind {α β : Type} {z : α} {k : α → Hs → Rz β} : (Rz.ok z h).bind k = k z h := id rfl
@[simp] theorem v_bindE {α β : Type} {k : α → Hs → Rz β} : (Rz.err y h : Rz α).bind k = .err y h := id rfl
@[simp] theorem v_bindB {α β : Type} {k : α → Hs → Rz β} : (Rz.bad : Rz α).bind k = .bad := id rfl
@[simp] theorem v_fl {α : Type} {z : α} {k : α → Hs → Fl} : (Rz.ok z h).fl env k = k z h := id rfl
@[simp] theorem v_flE {α : Type} {k : α → Hs → Fl} : (Rz.err y h : Rz α).fl env k = .err y env h := id rfl
@[simp] theorem v_flB {α : Type} {k : α → Hs → Fl} : (Rz.bad : Rz α).fl env k = .bad := id rfl
@[simp] theorem v_give : Rz.give (some x) h = .ok (.val x) h := id rfl
@[simp] theorem v_truth {b : Bool} : Rz.truth (.val (.bool b)) h = .ok b h := id rfl
def slot? (o : Option (Option Sl)) (h : Hs) : Rz Sl := match o with
  | some (some s) => .ok s h
  | _ => .bad
@[simp] theorem v_slot : slot? (some (some s)) h = .ok s h := id rfl
@[simp] theorem v_var {i : Nat} : eVar i env h = slot? env[i]? h := id rfl
@[simp] theorem v_k : eK x env h = .ok (.val x) h := id rfl
@[simp] theorem v_bin {g : G2} : cBin g f1 f2 env h = (f1 env h).bind fun s h => (f2 env h).bind fun t h => .give (g s t h) h := id rfl
@[simp] theorem v_un {g : Sl → Hs → Option PyData} : cUn g f env h = (f env h).bind fun s h => .give (g s h) h := id rfl
@[simp] theorem v_cb {g : GL} : cCB g a env h = (a env h).bind fun ss h => .give (g ss h) h := id rfl
@[simp] theorem v_tv : tV f env h = (f env h).bind fun s h => .truth s h := id rfl
@[simp] theorem v_tno : tNo c env h = (c env h).bind fun b h => .ok (!b) h := id rfl
@[simp] theorem v_tan : tAn c d env h = (c env h).bind fun b h => if b = true then d env h else .ok false h := id rfl
@[simp] theorem v_tor : tOr_ c d env h = (c env h).bind fun b h => if b = true then .ok true h else d env h := id rfl
@[simp] theorem v_tt : tTrue env h = .ok true h := id rfl
def and? (s : Sl) (h : Hs) (r : Rz Sl) : Rz Sl := match s with
  | .val (.bool true) => r
  | .val (.bool false) => .ok (.val (.bool false)) h
  | _ => .bad
def or? (s : Sl) (h : Hs) (r : Rz Sl) : Rz Sl := match s with
  | .val (.bool true) => .ok (.val (.bool true)) h
  | .val (.bool false) => r
  | _ => .bad
def not? (s : Sl) (h : Hs) : Rz Sl := match s with
  | .val (.bool b) => .ok (.val (.bool (!b))) h
  | _ => .bad
@[simp] theorem v_andT {r : Rz Sl} : and? (.val (.bool true)) h r = r := id rfl
@[simp] theorem v_andF {r : Rz Sl} : and? (.val (.bool false)) h r = .ok (.val (.bool false)) h := id rfl
@[simp] theorem v_orT {r : Rz Sl} : or? (.val (.bool true)) h r = .ok (.val (.bool true)) h := id rfl
@[simp] theorem v_orF {r : Rz Sl} : or? (.val (.bool false)) h r = r := id rfl
/-- where both sides are reckoned -/
@[simp] theorem v_andO {b c : Bool} : and? (.val (.bool b)) h (.ok (.val (.bool c)) h) = .ok (.val (.bool (b && c))) h := by cases b <;> rfl
@[simp] theorem v_orO {b c : Bool} : or? (.val (.bool b)) h (.ok (.val (.bool c)) h) = .ok (.val (.bool (b || c))) h := by cases b <;> rfl
@[simp] theorem v_notB {b : Bool} : not? (.val (.bool b)) h = .ok (.val (.bool (!b))) h := id rfl
@[simp] theorem v_and : eAnd f g env h = (f env h).bind fun s h => and? s h (g env h) := by
  unfold eAnd and?; rfl
@[simp] theorem v_or : eOr f g env h = (f env h).bind fun s h => or? s h (g env h) := by
  unfold eOr or?; rfl
@[simp] theorem v_not : eNot f env h = (f env h).bind fun s h => not? s h := by
  unfold eNot; congr
@[simp] theorem v_if : eIf c f g env h = (c env h).bind fun b h => if b = true then f env h else g env h := id rfl
def chain? (o : Option PyData) (h : Hs) (r : Rz Sl) : Rz Sl := match o with
  | some (.bool true) => r
  | some (.bool false) => .ok (.val (.bool false)) h
  | _ => .bad
@[simp] theorem v_chainT {r : Rz Sl} : chain? (some (.bool true)) h r = r := id rfl
@[simp] theorem v_chainF {r : Rz Sl} : chain? (some (.bool false)) h r = .ok (.val (.bool false)) h := id rfl
@[simp] theorem v_chainO {b c : Bool} : chain? (some (.bool b)) h (.ok (.val (.bool c)) h) = .ok (.val (.bool (b && c))) h := by cases b <;> rfl
@[simp] theorem v_chain {g1 g2 : G2} : eChain g1 g2 f1 f2 f3 env h = (f1 env h).bind fun s h => (f2 env h).bind fun t h => chain? (g1 s t h) h ((f3 env h).bind fun u h => .give (g2 t u h) h) := by
  unfold eChain chain?; rfl
@[simp] theorem v_anil : aNil env h = .ok [] h := id rfl
@[simp] theorem v_acons : aCons f a env h = (f env h).bind fun s h => (a env h).bind fun ss h => .ok (s :: ss) h := id rfl
@[simp] theorem v_valsN : vals? [] = some [] := id rfl
@[simp] theorem v_valsC : vals? (.val x :: ss) = (vals? ss).map (x :: ·) := id rfl
def line? (n : Nat) (z : PyData) : Option PyData := if lineOk n then some z else none
theorem v_line {n : Nat} {z : PyData} (hn : n ≤ 16777216) : line? n z = some z := by unfold line? lineOk; rw [if_pos (decide_eq_true hn)]
@[simp] theorem v_tup : eTup a env h = (a env h).bind fun ss h => .give ((vals? ss).bind fun ds => line? ds.length (.tuple ds)) h := id rfl
@[simp] theorem v_lst : eLst a env h = (a env h).bind fun ss h => .give ((vals? ss).bind fun ds => line? ds.length (.list ds)) h := id rfl
def new? (o : Option (List PyData)) (h : Hs) : Rz Sl := match o with
  | some ds => if lineOk ds.length then .ok (.loc h.length) (h ++ [.lst ds]) else .bad
  | none => .bad
theorem v_new1 {ds : List PyData} (hn : ds.length ≤ 16777216) : new? (some ds) h = .ok (.loc h.length) (h ++ [.lst ds]) := by unfold new? lineOk; dsimp only; rw [if_pos (decide_eq_true hn)]
@[simp] theorem v_new : eNew a env h = (a env h).bind fun ss h => new? (vals? ss) h := by unfold eNew new?; congr
@[simp] theorem v_gI {k : Int → Int → Option PyData} {i j : Int} : gI k (.val (.int i)) (.val (.int j)) h = k i j := id rfl
@[simp] theorem v_fAdd {i j : Int} : fAdd i j = some (.int (i + j)) := id rfl
@[simp] theorem v_fSub {i j : Int} : fSub i j = some (.int (i - j)) := id rfl
@[simp] theorem v_fLt {i j : Int} : fLt i j = some (.bool (decide (i < j))) := id rfl
@[simp] theorem v_fLe {i j : Int} : fLe i j = some (.bool (decide (i ≤ j))) := id rfl
@[simp] theorem v_fGt {i j : Int} : fGt i j = some (.bool (decide (j < i))) := id rfl
@[simp] theorem v_fGe {i j : Int} : fGe i j = some (.bool (decide (j ≤ i))) := id rfl
theorem v_fMulL {i j : Int} (h1 : -18446744073709551616 < i) (h2 : i < 18446744073709551616) : fMul i j = some (.int (i * j)) := by unfold fMul; rw [if_pos (Or.inl ⟨h1, h2⟩)]
theorem v_fMulR {i j : Int} (h1 : -18446744073709551616 < j) (h2 : j < 18446744073709551616) : fMul i j = some (.int (i * j)) := by unfold fMul; rw [if_pos (Or.inr ⟨h1, h2⟩)]
theorem v_fMod {i j : Int} (h1 : 0 < j) : fMod i j = some (.int (i % j)) := by unfold fMod; rw [if_pos h1]
theorem v_fDivW {i j : Int} (h1 : 0 < j) (h2 : j < 18446744073709551616) : fDiv i j = some (.int (i / j)) := by unfold fDiv; rw [if_pos ⟨h1, h2⟩]
theorem v_fDiv {i j : Int} (h1 : 0 < j) (h2 : j < 1073741824) : fDiv i j = some (.int (i / j)) := v_fDivW h1 (by omega)
@[simp] theorem v_isaI {c : String} {i : Int} : gIsa c (.val (.int i)) h = some (.bool (isaN c "int")) := id rfl
@[simp] theorem v_isaB {c : String} {i : Bool} : gIsa c (.val (.bool i)) h = some (.bool (isaN c "bool")) := id rfl
@[simp] theorem v_isaS {c : String} {i : PySem.Str} : gIsa c (.val (.str i)) h = some (.bool (isaN c "str")) := id rfl
@[simp] theorem v_isaN {c : String} : gIsa c (.val .none) h = some (.bool (isaN c "NoneType")) := id rfl
@[simp] theorem v_isaT {c : String} {ds : List PyData} : gIsa c (.val (.tuple ds)) h = some (.bool (isaN c "tuple")) := id rfl
@[simp] theorem v_isaL {c : String} {ds : List PyData} : gIsa c (.val (.list ds)) h = some (.bool (isaN c "list")) := id rfl
@[simp] theorem v_isa1 : isaN "int" "int" = true := by decide
@[simp] theorem v_isa2 : isaN "bool" "int" = false := by decide
@[simp] theorem v_isa3 : isaN "tuple" "int" = false := by decide
@[simp] theorem v_isa4 : isaN "int" "bool" = true := by decide
@[simp] theorem v_isa5 : isaN "bool" "bool" = true := by decide
@[simp] theorem v_isa6 : isaN "tuple" "tuple" = true := by decide
@[simp] theorem v_isa7 : isaN "tuple" "list" = false := by decide
@[simp] theorem v_isa8 : isaN "tuple" "str" = false := by decide
@[simp] theorem v_isa9 : isaN "tuple" "NoneType" = false := by decide
@[simp] theorem v_isa10 : isaN "tuple" "bool" = false := by decide
@[simp] theorem v_isa11 : isaN "int" "tuple" = false := by decide
@[simp] theorem v_isa12 : isaN "int" "list" = false := by decide
@[simp] theorem v_isa13 : isaN "int" "str" = false := by decide
@[simp] theorem v_isa14 : isaN "int" "NoneType" = false := by decide
@[simp] theorem v_isa15 : isaN "list" "list" = true := by decide
@[simp] theorem v_isa16 : isaN "list" "tuple" = false := by decide
@[simp] theorem v_isa17 : isaN "str" "str" = true := by decide
@[simp] theorem v_itT {ds : List PyData} : items (.val (.tuple ds)) h = some ds := id rfl
@[simp] theorem v_itL {ds : List PyData} : items (.val (.list ds)) h = some ds := id rfl
@[simp] theorem v_liL {ds : List PyData} : litems (.val (.list ds)) h = some ds := id rfl
def obL (o : Option Ob) : Option (List PyData) := match o with
  | some (.lst ds) => some ds
  | _ => none
@[simp] theorem v_obL {ds : List PyData} : obL (some (.lst ds)) = some ds := id rfl
@[simp] theorem v_itO {n : Nat} : items (.loc n) h = obL h[n]? := by unfold items obL; rfl
@[simp] theorem v_liO {n : Nat} : litems (.loc n) h = obL h[n]? := by unfold litems obL; rfl
@[simp] theorem v_datV : dat (.val x) h = some x := id rfl
@[simp] theorem v_datO {n : Nat} : dat (.loc n) h = (obL h[n]?).map PyData.list := by
  show (match h[n]? with | some (.lst ds) => some (PyData.list ds) | _ => none) = _
  cases h[n]? with
  | none => rfl
  | some o => cases o <;> rfl
@[simp] theorem v_eqI {i j : Int} : gEq (.val (.int i)) (.val (.int j)) h = some (.bool (decide (i = j))) := by
  show some (PyData.bool (i == j)) = _
  by_cases q : i = j <;> simp [q]
@[simp] theorem v_neI {i j : Int} : gNe (.val (.int i)) (.val (.int j)) h = some (.bool (!decide (i = j))) := by
  show some (PyData.bool (!(i == j))) = _
  by_cases q : i = j <;> simp [q]
def ix? (o : Option (List PyData)) (t : Sl) : Option PyData := match o, t with
  | some ds, .val (.int i) => atI ds i
  | _, _ => none
@[simp] theorem v_ix : gIx s t h = ix? (items s h) t := by unfold gIx ix?; rfl
@[simp] theorem v_ix1 {ds : List PyData} {i : Int} : ix? (some ds) (.val (.int i)) = atI ds i := id rfl
@[simp] theorem v_lix : lix s t h = ix? (litems s h) t := by unfold lix ix?; rfl
theorem v_atN {ds : List PyData} {n : Nat} {i : Int} (e : i = (n : Int)) : atI ds i = ds[n]? := by
  subst e
  unfold atI ixN
  rw [if_pos (Int.natCast_nonneg n)]
  by_cases q : (n : Int) < ds.length
  · rw [if_pos q]; rfl
  · rw [if_neg q, List.getElem?_eq_none (by omega)]; rfl
@[simp] theorem v_at0 {ds : List PyData} : atI ds 0 = ds[0]? := v_atN rfl
@[simp] theorem v_at1 {ds : List PyData} : atI ds 1 = ds[1]? := v_atN rfl
@[simp] theorem v_at2 {ds : List PyData} : atI ds 2 = ds[2]? := v_atN rfl
@[simp] theorem v_at3 {ds : List PyData} : atI ds 3 = ds[3]? := v_atN rfl
@[simp] theorem v_atC {ds : List PyData} {n : Nat} : atI ds (n : Int) = ds[n]? := v_atN rfl
@[simp] theorem v_len : gLen [s] h = (items s h).map fun ds => .int ds.length := id rfl
@[simp] theorem v_all : gAll [s] h = ((litems s h).bind bools?).map fun bs => .bool (bs.all id) := id rfl
@[simp] theorem v_any : gAny [s] h = ((litems s h).bind bools?).map fun bs => .bool (bs.any id) := id rfl
@[simp] theorem v_sum : gSum [s] h = ((litems s h).bind ints?).map fun bs => .int bs.sum := id rfl
@[simp] theorem v_intI {i : Int} : gInt [.val (.int i)] h = some (.int i) := id rfl
@[simp] theorem v_intB {b : Bool} : gInt [.val (.bool b)] h = some (.int (if b = true then 1 else 0)) := id rfl
@[simp] theorem v_max2 {i j : Int} : gMax2 [.val (.int i), .val (.int j)] h = some (.int (max i j)) := by
  show some (PyData.int (if j > i then j else i)) = _
  congr 2; omega
@[simp] theorem v_min2 {i j : Int} : gMin2 [.val (.int i), .val (.int j)] h = some (.int (min i j)) := by
  show some (PyData.int (if j < i then j else i)) = _
  congr 2; omega
@[simp] theorem v_tuple : gTuple [s] h = (items s h).map fun ds => .tuple ds := id rfl
@[simp] theorem v_list : gList [s] h = (items s h).map fun ds => .list ds := id rfl
@[simp] theorem v_revT {ds : List PyData} : gRev (.val (.tuple ds)) h = some (.tuple ds.reverse) := id rfl
theorem bools_map {α : Type} (f : α → Bool) : ∀ xs : List α, bools? (xs.map fun x => .bool (f x)) = some (xs.map f)
  | [] => rfl
  | x :: xs => by show (bools? (xs.map fun x => .bool (f x))).map (f x :: ·) = _; rw [bools_map f xs]; rfl
theorem ints_map {α : Type} (f : α → Int) : ∀ xs : List α, ints? (xs.map fun x => .int (f x)) = some (xs.map f)
  | [] => rfl
  | x :: xs => by show (ints? (xs.map fun x => .int (f x))).map (f x :: ·) = _; rw [ints_map f xs]; rfl
@[simp] theorem v_onone : oNone env h = .ok none h := id rfl
def osome? (s : Sl) (h : Hs) : Rz (Option Int) := match s with
  | .val (.int i) => .ok (some i) h
  | _ => .bad
@[simp] theorem v_osome1 {i : Int} : osome? (.val (.int i)) h = .ok (some i) h := id rfl
@[simp] theorem v_osome : oSome f env h = (f env h).bind fun s h => osome? s h := by unfold oSome; congr
@[simp] theorem v_sl {lo hi : En → Hs → Rz (Option Int)} : eSl f lo hi env h = (f env h).bind fun s h => (lo env h).bind fun l h => (hi env h).bind fun u h => .give (gCut s l u h) h := id rfl
@[simp] theorem v_cutT {ds : List PyData} {lo hi : Option Int} : gCut (.val (.tuple ds)) lo hi h = some (.tuple (cutD ds lo hi)) := id rfl
@[simp] theorem v_cutL {ds : List PyData} {lo hi : Option Int} : gCut (.val (.list ds)) lo hi h = some (.list (cutD ds lo hi)) := id rfl
def Fl.seq (r : Fl) (q : Sv) : Fl := match r with
  | .next e h => q e h
  | r => r
@[simp] theorem v_seq : sSeq p q env h = (p env h).seq q := by unfold sSeq Fl.seq; cases p env h <;> rfl
@[simp] theorem v_seqN : (Fl.next e h).seq q = q e h := id rfl
@[simp] theorem v_seqR : (Fl.ret s h).seq q = .ret s h := id rfl
@[simp] theorem v_nil : sNil env h = .next env h := id rfl
@[simp] theorem v_exp : sExp f env h = (f env h).fl env fun _ h => .next env h := id rfl
@[simp] theorem v_ret : sRet f env h = (f env h).fl env fun s h => .ret s h := id rfl
@[simp] theorem v_sif : sIf c p q env h = (c env h).fl env fun b h => if b = true then p env h else q env h := id rfl
@[simp] theorem v_set {i : Nat} : sSet i f env h = (f env h).fl env fun s h => .next (env.set i (some s)) h := id rfl
def asg? (tg : Tg) (s : Sl) (env : En) (h : Hs) : Fl := match s with
  | .val d => match tg.put d env with
    | some e => .next e h
    | none => .bad
  | _ => .bad
@[simp] theorem v_asg {tg : Tg} : sAsg f tg env h = (f env h).fl env fun s h => asg? tg s env h := by unfold sAsg; congr
@[simp] theorem v_asg2 {ts : List Tg} {ds : List PyData} : asg? (.tp ts) (.val (.tuple ds)) env h = match Tg.puts ts ds env with
    | some e => .next e h
    | none => .bad := by unfold asg?; simp only [Tg.put]
@[simp] theorem v_putN {i : Nat} : Tg.put (.nm i) x env = some (env.set i (some (.val x))) := by simp only [Tg.put]
@[simp] theorem v_putT {ts : List Tg} {ds : List PyData} : Tg.put (.tp ts) (.tuple ds) env = Tg.puts ts ds env := by simp only [Tg.put]
@[simp] theorem v_putsN : Tg.puts [] [] env = some env := by simp only [Tg.puts]
@[simp] theorem v_putsC {i : Nat} {ts : List Tg} {ds : List PyData} : Tg.puts (.nm i :: ts) (x :: ds) env = Tg.puts ts ds (env.set i (some (.val x))) := by
  rw [Tg.puts]
  simp only [Tg.put]
def par? (i j : Nat) (ss : List Sl) (env : En) (h : Hs) : Fl := match ss with
  | [s, t] => .next ((env.set i (some s)).set j (some t)) h
  | _ => .bad
@[simp] theorem v_par1 {i j : Nat} : par? i j [s, t] env h = .next ((env.set i (some s)).set j (some t)) h := id rfl
@[simp] theorem v_par {i j : Nat} : sPar i j a env h = (a env h).fl env fun ss h => par? i j ss env h := by unfold sPar; congr
def seq? (s : Sl) (h : Hs) : Rz (List PyData) := match s with
  | .val (.list ds) => .ok ds h
  | .val (.tuple ds) => .ok ds h
  | _ => .bad
@[simp] theorem v_seqL {ds : List PyData} : seq? (.val (.list ds)) h = .ok ds h := id rfl
@[simp] theorem v_seqT {ds : List PyData} : seq? (.val (.tuple ds)) h = .ok ds h := id rfl
@[simp] theorem v_src : srcSeq f env h = (f env h).bind fun s h => seq? s h := by unfold srcSeq; congr
def rng? (ss : List Sl) (h : Hs) : Rz (List PyData) := match ss with
  | [.val (.int j)] => if rngOk j then .ok (upTo 0 j.toNat) h else .bad
  | _ => .bad
@[simp] theorem v_rng : srcRng1 a env h = (a env h).bind fun ss h => rng? ss h := by unfold srcRng1; congr
theorem v_rng1 {j : Int} (h1 : -4611686018427387904 ≤ j) (h2 : j < 4611686018427387904) : rng? [.val (.int j)] h = .ok (upTo 0 j.toNat) h := by
  show (if rngOk j then _ else _) = _
  unfold rngOk
  rw [if_pos (decide_eq_true ⟨h1, h2⟩)]
@[simp] theorem v_for {src : En → Hs → Rz (List PyData)} {tg : Tg} : sFor src tg p env h = (src env h).fl env fun ds h => loopF tg p h.length ds env h := id rfl
@[simp] theorem v_comp {src : En → Hs → Rz (List PyData)} {tg : Tg} {vs : List Nat} : eComp src tg vs c f env h = (src env h).bind fun ds h => (compL tg c f (wipeE env vs) ds [] h).bind fun out h => .ok (.val (.list out)) h := id rfl
@[simp] theorem v_compN {src : En → Hs → Rz (List PyData)} {tg : Tg} {vs : List Nat} : eCompN src tg vs c f env h = (src env h).bind fun ds h => (compL tg c f (wipeE env vs) ds [] h).bind fun out h => .ok (.loc h.length) (h ++ [.lst out]) := id rfl
@[simp] theorem v_wipe0 : wipeE env [] = env := id rfl
@[simp] theorem v_wipe {i : Nat} {vs : List Nat} : wipeE env (i :: vs) = (wipeE env vs).set i none := id rfl
/-- a comprehension that takes each thing -/
theorem comp_map {α : Type} {tg : Tg} {E : α → En} {dd : α → PyData} {w : α → PyData} (hp : ∀ z, tg.put (dd z) env = some (E z)) (hc : ∀ z, c (E z) h = .ok true h) :
    ∀ (xs : List α) (acc : List PyData), (∀ z ∈ xs, f (E z) h = .ok (.val (w z)) h) → acc.length + xs.length ≤ 16777216 → compL tg c f env (xs.map dd) acc h = .ok (acc ++ xs.map w) h
  | [], acc, _, _ => by simp [compL]
  | z :: xs, acc, hf, hl => by
    rw [List.map_cons]
    unfold compL
    rw [hp z]
    dsimp only
    rw [hc z]
    dsimp only
    rw [hf z List.mem_cons_self]
    dsimp only
    have hl' : acc.length + xs.length + 1 ≤ 16777216 := hl
    rw [if_pos (by omega), comp_map hp hc xs (acc ++ [w z]) (fun y m => hf y (List.mem_cons_of_mem _ m)) (by rw [List.length_append, List.length_singleton]; omega)]
    simp
@[simp] theorem v_call {m : Fm} {io : List Bool} {fr : Bool} : eCall m io fr a env h = (a env h).bind fun ss h => callF m io fr ss h := id rfl
/-- a call that is handed data alone -/
theorem call_d {m : Fm} {fr : Bool} {io : List Bool} {ss : List Sl} {ds : List PyData} {z : PyData} (hv : vals? ss = some ds) (hi : io = ss.map fun _ => false) (e : m ds [] = .ok z []) : callF m io fr ss h = .ok (.val z) h := by
  have w : ∀ (ss : List Sl) (ds : List PyData), vals? ss = some ds → splitA (ss.map fun _ => false) ss h = some (ds, [], [], []) := by
    intro ss
    induction ss with
    | nil => intro ds q; cases q; rfl
    | cons s r ih =>
      intro ds q
      cases s with
      | loc n => cases q
      | inn n i => cases q
      | exn y => cases q
      | pr _ _ => cases q
      | val d =>
        have q' : (vals? r).map (d :: ·) = some ds := q
        cases q2 : vals? r with
        | none => rw [q2] at q'; cases q'
        | some rs =>
          rw [q2] at q'
          cases q'
          simp only [List.map_cons, splitA, ih rs q2, dat0]
  subst hi
  unfold callF
  rw [w ss ds hv]
  dsimp only
  rw [if_pos ⟨rfl, Or.inl rfl⟩, e]
  dsimp only
  rw [if_pos (Or.inl rfl)]
  rfl
@[simp] theorem call1 {m : Fm} {fr : Bool} {x1 : PyData} {z : PyData} (e : m [x1] [] = .ok z []) : callF m [false] fr [.val x1] h = .ok (.val z) h := call_d rfl rfl e
@[simp] theorem call2 {m : Fm} {fr : Bool} {x1 x2 : PyData} {z : PyData} (e : m [x1, x2] [] = .ok z []) : callF m [false, false] fr [.val x1, .val x2] h = .ok (.val z) h := call_d rfl rfl e
@[simp] theorem call3 {m : Fm} {fr : Bool} {x1 x2 x3 : PyData} {z : PyData} (e : m [x1, x2, x3] [] = .ok z []) : callF m [false, false, false] fr [.val x1, .val x2, .val x3] h = .ok (.val z) h := call_d rfl rfl e
@[simp] theorem call4 {m : Fm} {fr : Bool} {x1 x2 x3 x4 : PyData} {z : PyData} (e : m [x1, x2, x3, x4] [] = .ok z []) : callF m [false, false, false, false] fr [.val x1, .val x2, .val x3, .val x4] h = .ok (.val z) h := call_d rfl rfl e
def runD (fr : Bool) (k : Nat) (r : Fl) : Rz PyData := match r with
  | .next _ h => .ok .none (h.take k)
  | .ret s h => outD fr k s h
  | .err x _ h => .err x (h.take k)
  | _ => .bad
@[simp] theorem v_run {fr : Bool} {io : List Bool} {nl : Nat} {ds : List PyData} {os : Hs} : runFn fr io nl p ds os = runD fr os.length (p (mkEnv io ds 0 ++ List.replicate nl none) os) := by
  unfold runFn runD; rfl
@[simp] theorem v_runN {fr : Bool} {k : Nat} : runD fr k (.next e h) = .ok .none (h.take k) := id rfl
@[simp] theorem v_runR {fr : Bool} {k : Nat} : runD fr k (.ret s h) = outD fr k s h := id rfl
@[simp] theorem v_outV {k : Nat} : outD false k (.val x) h = .ok x (h.take k) := by unfold outD; simp
@[simp] theorem v_mkN {ds : List PyData} {k : Nat} : mkEnv [] ds k = [] := id rfl
@[simp] theorem v_mkF {io : List Bool} {ds : List PyData} {k : Nat} : mkEnv (false :: io) (x :: ds) k = some (.val x) :: mkEnv io ds k := id rfl
@[simp] theorem v_mkT {io : List Bool} {ds : List PyData} {k : Nat} : mkEnv (true :: io) ds k = some (.loc k) :: mkEnv io ds (k + 1) := by cases ds <;> rfl
theorem callF_eq {m : Fm} {io : List Bool} {fr : Bool} {ss : List Sl} {ds : List PyData} {ns : List Nat} {os os' : Hs} {vw : List Nat} {z : PyData} (e : splitA io ss h = some (ds, ns, os, vw)) (ha : apartN ns vw = true) (hv : vw = [] ∨ fr = true)
    (em : m ds os = .ok z os') (ho : vw = [] ∨ os'.all obNoL = true) : callF m io fr ss h = .ok (.val z) (putObs ns os' h) := by
  unfold callF
  rw [e]
  dsimp only
  rw [if_pos ⟨ha, hv⟩, em]
  dsimp only
  rw [if_pos ho]
theorem callN_eq {m : Fm} {io : List Bool} {ss : List Sl} {ds ls : List PyData} {ns : List Nat} {os os' : Hs} {vw : List Nat} (e : splitA io ss h = some (ds, ns, os, vw)) (ha : apartN ns vw = true)
    (em : m ds os = .ok (.list ls) os') (ho : os'.all obNoL = true) : callN m io ss h = .ok (.loc h.length) (putObs ns os' h ++ [.lst ls]) := by
  unfold callN
  rw [e]
  dsimp only
  rw [if_pos ha, em]
  dsimp only
  rw [if_pos ho]
@[simp] theorem v_callN {m : Fm} {io : List Bool} : eCallN m io a env h = (a env h).bind fun ss h => callN m io ss h := id rfl
@[simp] theorem v_cutN {n : Nat} : cutE n [] = [] := id rfl
@[simp] theorem v_cut0 {n : Nat} {r : En} : cutE n (none :: r) = none :: cutE n r := id rfl
@[simp] theorem v_cutV {n : Nat} {r : En} : cutE n (some (.val x) :: r) = some (.val x) :: cutE n r := id rfl
@[simp] theorem v_cutI {n k i : Nat} {r : En} : cutE n (some (.inn k i) :: r) = (if k < n then some (.inn k i) else none) :: cutE n r := id rfl
@[simp] theorem v_cutO {n k : Nat} {r : En} : cutE n (some (.loc k) :: r) = (if k < n then some (.loc k) else none) :: cutE n r := id rfl
end
end FL
namespace FL
open PySem PySem.Spec PyProof.Rows L2
def sRaise (x : Str) : Sv := fun env h => .err ⟨x, []⟩ env h
/-- what is asked of a class of refusals -/
structure ExCls (K : PySem.W.Frag) (mg : Str → Option Value) (x : Str) (C : Addr) : Prop where
  g : mg x = some (.ref C)
  q : PySem.W.excIn K C [.type "ValueError", .type "Exception", .type "BaseException", .type "object"] "ValueError.__new__" = true
  kp : PySem.W.keepIn K (.ref C) = true
  sub : PySem.W.subIn K (.ref C) (.type "BaseException") = some true
  ty : PySem.W.typeIn K (.ref C) = some (.type "type")
section
variable {X : Cx} {C : Fc} {Wx : WX}
theorem fs_raise {x m : Str} {c : Addr} {j : Nat} {p p2 pos pos2 : Pos} (hc : X.calm = true) (tk : Takes X Wx) (e : ExCls X.K X.mg x c) (hg : Gl X x) (hdb : (x == ("__debug__" : Str)) = false := by decide) :
    FS X C Wx (.Raise (some (.Call (.Name x p) [.Constant (.str m) j p2] [] pos2)) none pos) (sRaise x) :=
  PS.imp (ps_raise hc tk (pmk_own PySem.F.excBase_ValueError e.q e.g e.kp (raises_own e.sub e.ty) hg hdb)) fun D σ H ⟨ρ, env, h, S, E, P⟩ =>
    P ρ σ H (.ref c) none (Stp.refl _ _) S E ⟨e.g, .inl ⟨rfl, rfl⟩⟩
end
@[simp] theorem v_raise {x : Str} {env : En} {h : Hs} : sRaise x env h = .err ⟨x, []⟩ env h := id rfl
@[simp] theorem v_seqE {x : Exn} {e : En} {h : Hs} {q : Sv} : (Fl.err x e h).seq q = .err x e h := id rfl
@[simp] theorem v_runE {fr : Bool} {k : Nat} {x : Exn} {e : En} {h : Hs} : runD fr k (.err x e h) = .err x (h.take k) := id rfl
section
variable {K : PySem.W.Frag} {C : Fc} {ρ ρ2 : Fps} {h h2 : Hs} {H H2 : Hp}
/-- a run within a frame of its own, seen from the frame about it -/
theorem SimH.seen {C2 : Fc} (S2 : SimH K C2 ρ2 h2 H2) (e0 : C2.H0 = H) (e1 : C2.W = ρ) (e2 : C2.Bar = C.Bar) : Ex C ρ H ρ2 H2 := by
  refine ⟨⟨fun b o e n => ?_, fun b m => ?_⟩, fun n fp e => ⟨fp, S2.pre n fp (by rw [e1]; exact e), pfx_rfl⟩⟩
  · exact S2.frK b o (by rw [e0]; exact e) (by rw [e1]; exact fun z => n (.inl z))
  · rcases m with m | m
    · rcases S2.own b m with z | z
      · rw [e1] at z; exact .inl (.inl z)
      · rw [e0] at z; exact .inr z
    · exact .inl (.inr m)
theorem SimH.cong {C2 : Fc} (S : SimH K C ρ h H) (e0 : C2.H0 = C.H0) (e1 : C2.W = C.W) (e2 : C2.Bar = C.Bar) (e3 : C2.T = C.T) : SimH K C2 ρ h H := by
  obtain ⟨H0, W, B, T, x⟩ := C
  obtain ⟨H0', W', B', T', x'⟩ := C2
  dsimp only at e0 e1 e2 e3
  subst e0 e1 e2 e3
  exact ⟨S.len, S.nd, S.trk, S.obj, S.frK, S.own, S.bar, S.wtr, S.pre, S.tab, S.bnt⟩
end
end FL
namespace FL
open PySem PySem.Spec PyProof.Rows L2
def enumD (k : Nat) : List PyData → List PyData
  | [] => []
  | d :: ds => .tuple [.int k, d] :: enumD (k + 1) ds
def srcEnum (f : Av) : En → Hs → Rz (List PyData) := fun env h => (f env h).bind fun ss h => match ss with
  | [.val (.tuple ds)] => .ok (enumD 0 ds) h
  | [.val (.list ds)] => .ok (enumD 0 ds) h
  | _ => .bad
end FL
namespace FL
open PySem PySem.Spec PyProof.Rows L2
section
variable {X : Cx} {C : Fc}
def gIn : G2 := fun s t h => match dat s h, items t h with
  | some d, some ds => if shp d && shp (.list ds) then some (.bool (ds.any fun z => PyData.eqv z d)) else none
  | _, _ => none
def gNotIn : G2 := fun s t h => match dat s h, items t h with
  | some d, some ds => if shp d && shp (.list ds) then some (.bool (!ds.any fun z => PyData.eqv z d)) else none
  | _, _ => none
/-- a list or a tuple, its items data -/
theorem items_dp {ρ : Fps} {H : Hp} {h : Hs} {v : V} {s : Sl} {ds : List PyData} (S : SimH X.K C ρ h H) (r : SlV X.K C ρ H v s) (e : items s h = some ds) (hs : shp (.list ds) = true) : Dp X.K H v (.list ds) ∨ Dp X.K H v (.tuple ds) := by
  have nd : PyData.hasDictAll ds = false := by simpa only [PyData.hasDict] using shp_nd hs
  obtain ⟨a, vs, rfl, sq | sq, ra⟩ := items_rel S r e
  · exact .inl (.lst sq (RpAll.dp _ _ nd ra))
  · exact .inr (.tup sq (RpAll.dp _ _ nd ra))
def rInB (K : PySem.W.Frag) (neg : Bool) : R2 := fun x y H Q => ∃ d ds, Dp K H x d ∧ (Dp K H y (.list ds) ∨ Dp K H y (.tuple ds)) ∧ shp d = true ∧ shp (.list ds) = true ∧ Q (.bl (if neg then !ds.any fun z => PyData.eqv z d else ds.any fun z => PyData.eqv z d)) H
theorem op_inB (hu : X.A.units + 65 < cLine) : OpR X (compareOp .In) (rInB X.K false) := by
  rintro pins s σ H x y v u Q I rx ry ⟨d, ds, hd, he, sd, se, q⟩
  obtain ⟨as, r1⟩ := Dp.reads I d x v hd rx
  rcases he with he | he
  · exact op_inD hu pins s σ H x y v u Q I rx ry ⟨d, ds, hd, he, sd, se, q⟩
  · obtain ⟨bs, r2⟩ := Dp.reads I (.tuple ds) y u he ry
    exact SeqAt.in_tuple_reads r2 r1 (SeqAt.canLay_of_shaped se) (SeqAt.canLay_of_shaped sd) (room_in_shaped sd hu) ⟨.bl _, H, I, rfl, q⟩
theorem op_notInB (hu : X.A.units + 65 < cLine) : OpR X (compareOp .NotIn) (rInB X.K true) := by
  rintro pins s σ H x y v u Q I rx ry ⟨d, ds, hd, he, sd, se, q⟩
  obtain ⟨as, r1⟩ := Dp.reads I d x v hd rx
  rcases he with he | he
  · exact op_notInD hu pins s σ H x y v u Q I rx ry ⟨d, ds, hd, he, sd, se, q⟩
  · obtain ⟨bs, r2⟩ := Dp.reads I (.tuple ds) y u he ry
    exact SeqAt.notIn_tuple_reads r2 r1 (SeqAt.canLay_of_shaped se) (SeqAt.canLay_of_shaped sd) (room_in_shaped sd hu) ⟨.bl _, H, I, rfl, q⟩
theorem o_in (hu : X.A.units + 65 < cLine) : OpR X (compareOp .In) (rd2 X.K C gIn) := OpR.imp (op_inB hu) fun x y H Q ⟨ρ, h, s, t, d, S, r1, r2, e, k⟩ => by
  unfold gIn at e
  split at e
  · rename_i a ds e1 e2
    split at e
    · rename_i c
      obtain ⟨c1, c2⟩ := Bool.and_eq_true_iff.mp c
      cases e
      exact ⟨a, ds, dat_rel S r1 e1 (shp_nd c1), items_dp S r2 e2 c2, c1, c2, k _ H (Ex.refl _ _ _) S (.bl _)⟩
    · cases e
  · cases e
theorem o_notin (hu : X.A.units + 65 < cLine) : OpR X (compareOp .NotIn) (rd2 X.K C gNotIn) := OpR.imp (op_notInB hu) fun x y H Q ⟨ρ, h, s, t, d, S, r1, r2, e, k⟩ => by
  unfold gNotIn at e
  split at e
  · rename_i a ds e1 e2
    split at e
    · rename_i c
      obtain ⟨c1, c2⟩ := Bool.and_eq_true_iff.mp c
      cases e
      exact ⟨a, ds, dat_rel S r1 e1 (shp_nd c1), items_dp S r2 e2 c2, c1, c2, k _ H (Ex.refl _ _ _) S (.bl _)⟩
    · cases e
  · cases e
end
def gAdd : G2 := fun s t h => match s, t with
  | .val (.int i), .val (.int j) => some (.int (i + j))
  | .val (.str a), .val (.str b) => if a.length + b.length ≤ 16777216 then some (.str (a ++ b)) else none
  | .val (.tuple a), .val (.tuple b) => if lineOk (a.length + b.length) then some (.tuple (a ++ b)) else none
  | s, t => match litems s h, litems t h with
    | some a, some b => if lineOk (a.length + b.length) then some (.list (a ++ b)) else none
    | _, _ => none
section
variable {X : Cx} {C : Fc}
/-- a list whose object is plain -/
def PlL (K : PySem.W.Frag) (H : Hp) (a : Addr) (xs : List V) : Prop := Rd H a (.lst xs) ∨ ∃ (its : Array Value) (n : Nat), K.lookup a = some { cls := .type "list", data := .seq its n } ∧ its.size ≤ sizeLine ∧ Vals xs its.toList
theorem PlL.get {pins : List (Addr × Obj)} {s : Shared} {σ : St} {H : Hp} {a : Addr} {xs : List V} (I : Inv X pins σ H s) (h : PlL X.K H a xs) : ∃ (its : List Value) (n : Nat), Vals xs its ∧ s.heap.get? a = some { cls := .type "list", data := .seq its.toArray n } := by
  rcases h with h | ⟨its, n, hk, hz, r⟩
  · obtain ⟨z, its, n, r, e⟩ := h.ok I.hok
    exact ⟨its, n, r, e⟩
  · exact ⟨its.toList, n, r, by simpa using I.kIn _ _ hk⟩
theorem litems_pl {ρ : Fps} {H : Hp} {h : Hs} {v : V} {s : Sl} {ds : List PyData} (S : SimH X.K C ρ h H) (r : SlV X.K C ρ H v s) (e : litems s h = some ds) : ∃ a vs, v = .ref a ∧ PlL X.K H a vs ∧ RpAll X.K H (Mo C ρ) vs ds := by
  unfold litems at e
  split at e
  · cases e
    cases (show Rp X.K H (Mo C ρ) v (.list ds) from r) with
    | lst q a => exact ⟨_, _, rfl, q.imp And.left id, a⟩
  · rename_i n
    obtain ⟨fp, a, e1, e2, rfl⟩ := r
    split at e
    · rename_i ds' e3
      cases e
      obtain ⟨_, vs, q, ra⟩ := S.lst e1 e2 e3
      exact ⟨_, vs, rfl, .inl (.inl q), ra⟩
    · cases e
  · rename_i n i
    obtain ⟨fp, a, e1, e2, rfl⟩ := r
    obtain ⟨vs, q, ra⟩ := S.inn e1 e2 e
    exact ⟨_, vs, rfl, .inl (.inl q), ra⟩
  · cases e
def rCatP (K : PySem.W.Frag) : R2 := fun x y H Q => ∃ a b xs ys, x = .ref a ∧ y = .ref b ∧ PlL K H a xs ∧ PlL K H b ys ∧ xs.length + ys.length ≤ sizeLine ∧ ∀ p, H p = none → Q (.ref p) (upd H p (.lst (xs ++ ys)))
theorem op_catP : OpR X (binaryOp .Add) (rCatP X.K) := by
  rintro pins s σ H x y v u Q I rx ry ⟨a, b, xs, ys, rfl, rfl, ha, hb, hz, q⟩
  cases rx
  cases ry
  obtain ⟨i1, n1, r1, e1⟩ := ha.get I
  obtain ⟨i2, n2, r2, e2⟩ := hb.get I
  have l1 := r1.length
  have l2 := r2.length
  refine PySem.P.add_list e1 e2 ?_ (by rw [List.size_toArray, List.size_toArray]; omega)
  rw [show i1.toArray ++ i2.toArray = (i1 ++ i2).toArray by simp]
  exact ⟨.ref _, _, I.lnew (t' := s.toks) (r1.append r2) (by rw [List.length_append]; omega), rfl, q _ I.fresh⟩
theorem o_add : OpR X (binaryOp .Add) (rd2 X.K C gAdd) := OpR.imp (((op_add.or op_add_str).or op_catA).or op_catP) fun x y H Q ⟨ρ, h, s, t, d, S, r1, r2, e, k⟩ => by
  unfold gAdd at e
  split at e
  · rename_i i j
    cases e
    cases (show Rp X.K H (Mo C ρ) x (.int i) from r1)
    cases (show Rp X.K H (Mo C ρ) y (.int j) from r2)
    exact .inl (.inl (.inl ⟨i, j, rfl, rfl, k _ H (Ex.refl _ _ _) S (.int _)⟩))
  · rename_i a b
    split at e
    · rename_i hl
      cases e
      cases (show Rp X.K H (Mo C ρ) x (.str a) from r1)
      cases (show Rp X.K H (Mo C ρ) y (.str b) from r2)
      exact .inl (.inl (.inr ⟨a, b, rfl, rfl, by rw [sizeLine_eq]; exact hl, k _ H (Ex.refl _ _ _) S (.str _)⟩))
    · cases e
  · rename_i a b
    split at e
    · rename_i hl
      cases e
      cases (show Rp X.K H (Mo C ρ) x (.tuple a) from r1) with
      | tup q1 a1 =>
        cases (show Rp X.K H (Mo C ρ) y (.tuple b) from r2) with
        | tup q2 a2 =>
          refine .inl (.inr ⟨_, _, _, _, rfl, rfl, q1.sq, q2.sq, by rw [a1.length, a2.length]; exact lineOk_le hl, fun z => ?_, fun z z2 => ?_, fun _ _ p hp => k _ _ (Ex.laid S hp) (S.laid hp) (Rp.newTup S hp (a1.append a2))⟩)
          · subst z
            cases a1
            exact k _ H (Ex.refl _ _ _) S (.tup q2 a2)
          · subst z2
            cases a2
            refine k _ H (Ex.refl _ _ _) S ?_
            rw [List.append_nil]
            exact .tup q1 a1
    · cases e
  · split at e
    · rename_i a b e1 e2
      split at e
      · rename_i hl
        cases e
        obtain ⟨p1, v1, rfl, q1, a1⟩ := litems_pl S r1 e1
        obtain ⟨p2, v2, rfl, q2, a2⟩ := litems_pl S r2 e2
        exact .inr ⟨_, _, _, _, rfl, rfl, q1, q2, by rw [a1.length, a2.length]; exact lineOk_le hl, fun p hp => k _ _ (Ex.laid S hp) (S.laid hp) (Rp.newLst S hp (a1.append a2))⟩
      · cases e
    · cases e
end
@[simp] theorem v_addI {i j : Int} {h : Hs} : gAdd (.val (.int i)) (.val (.int j)) h = some (.int (i + j)) := id rfl
theorem v_addT {a b : List PyData} {h : Hs} (hl : a.length + b.length ≤ 16777216) : gAdd (.val (.tuple a)) (.val (.tuple b)) h = some (.tuple (a ++ b)) := by
  show (if lineOk (a.length + b.length) then _ else _) = _
  unfold lineOk
  rw [if_pos (decide_eq_true hl)]
theorem v_addL {a b : List PyData} {h : Hs} (hl : a.length + b.length ≤ 16777216) : gAdd (.val (.list a)) (.val (.list b)) h = some (.list (a ++ b)) := by
  show (if lineOk (a.length + b.length) then _ else _) = _
  unfold lineOk
  rw [if_pos (decide_eq_true hl)]
end FL
namespace FL
open PySem PySem.Spec PyProof.Rows L2
def mCount : GM := fun s ss h => match (litems s h).bind bools?, ss with
  | some bs, [.val (.bool b)] => some (.int (bs.count b : Nat), h)
  | _, _ => none
def mIndex : GM := fun s ss h => match (litems s h).bind bools?, ss with
  | some bs, [.val (.bool b)] => if bs.contains b then some (.int (bs.idxOf b : Nat), h) else none
  | _, _ => none
def isB (b : Bool) (v : Value) : Bool := match v with
  | .bool a => a == b
  | _ => false
theorem vals_bl : ∀ {bs : List Bool} {us : List Value}, Vals (bs.map V.bl) us → us = bs.map Value.bool
  | [], _, .nil => rfl
  | b :: bs, _, .cons r t => by
    rw [List.map_cons, ← vals_bl t]
    cases (show _ = Value.bool b from r)
    rfl
theorem count_isB (b : Bool) : ∀ bs : List Bool, (bs.map Value.bool).countP (isB b) = bs.count b
  | [] => rfl
  | a :: bs => by
    rw [List.map_cons, List.countP_cons, List.count_cons, count_isB b bs]
    rfl
section
variable {X : Cx} {C : Fc}
theorem mt_countB : MtR X "list.count" fun x xs H Q => ∃ (p : Addr) (bs : List Bool) (b : Bool), x = .ref p ∧ xs = [.bl b] ∧ SqL X.K H p (bs.map V.bl) ∧ Q (.int (bs.count b : Nat)) H := by
  rintro pins s σ H x xs v us Q I rx rxs ⟨p, bs, b, rfl, rfl, hs, q⟩
  cases rx
  obtain ⟨u, rfl, ru⟩ := rxs.one
  cases (show u = Value.bool b from ru)
  obtain ⟨its, rv, ⟨⟨cls, dd, data, sl⟩, n, ho, hc, hdn, hd⟩, hlen⟩ := I.list hs
  simp only at hc hd
  subst hc hd
  have ei := vals_bl rv
  subst ei
  refine call_meets PySem.F.slot_list_count ⟨_, ho, rfl⟩ PySem.F.entry_list_count (PySem.F.args_list_count_2 _ _) (SeqAt.list_countAt p _ n dd sl (.bool b) (isB b)) ⟨ho, fun y hy => ?_, ?_⟩
  · obtain ⟨a, _, rfl⟩ := List.mem_map.mp (show y ∈ bs.map Value.bool by simpa using hy)
    exact SeqAt.EqAt.bool_bool a b
  · refine ⟨.int (bs.count b : Nat), H, I.tok _, ⟨s.toks, ?_⟩, q⟩
    show Value.int (((bs.map Value.bool).toArray.toList.countP (isB b) : Nat) : Int) s.toks = _
    rw [show (bs.map Value.bool).toArray.toList = bs.map Value.bool from rfl, count_isB]
theorem m_count : MtR X "list.count" (rdM X.K C mCount) := MtR.imp mt_countB fun x xs H Q ⟨ρ, h, s, ss, d, h', S, r1, r2, e, k⟩ => by
  unfold mCount at e
  split at e
  · rename_i bs b e1
    cases e
    obtain ⟨ds, e2, e3⟩ := Option.bind_eq_some_iff.mp e1
    obtain ⟨a, vs, rfl, sq, ra⟩ := litems_rel S r1 e2
    obtain ⟨y, rfl, ry⟩ := SlVs.one r2
    cases (show Rp X.K H (Mo C ρ) y (.bool b) from ry)
    have ev := bools_rel ra e3
    subst ev
    exact ⟨a, bs, b, rfl, rfl, sq, k _ H (Ex.refl _ _ _) S (.int _)⟩
  · cases e
theorem idx_first {b : Bool} : ∀ {bs : List Bool}, bs.contains b = true → bs[bs.idxOf b]? = some b ∧ ∀ m, m < bs.idxOf b → bs[m]? ≠ some b
  | [], h => by simp at h
  | a :: bs, h => by
    by_cases q : a = b
    · subst q
      simp [List.idxOf_cons]
    · have h2 : bs.contains b = true := by
        simp at h ⊢
        rcases h with h | h
        · exact absurd h.symm q
        · exact h
      obtain ⟨i1, i2⟩ := idx_first h2
      have e : (a :: bs).idxOf b = bs.idxOf b + 1 := by
        have hq : (a == b) = false := by simpa using q
        simp [List.idxOf_cons, hq]
      rw [e]
      refine ⟨by simpa using i1, fun m hm => ?_⟩
      cases m with
      | zero => simpa using q
      | succ m => simpa using i2 m (by omega)
theorem m_index : MtR X "list.index" (rdM X.K C mIndex) := MtR.imp mt_index fun x xs H Q ⟨ρ, h, s, ss, d, h', S, r1, r2, e, k⟩ => by
  unfold mIndex at e
  split at e
  · rename_i bs b e1
    split at e
    · rename_i hc
      cases e
      obtain ⟨ds, e2, e3⟩ := Option.bind_eq_some_iff.mp e1
      obtain ⟨a, vs, rfl, sq, ra⟩ := litems_rel S r1 e2
      obtain ⟨y, rfl, ry⟩ := SlVs.one r2
      cases (show Rp X.K H (Mo C ρ) y (.bool b) from ry)
      have ev := bools_rel ra e3
      subst ev
      obtain ⟨i1, i2⟩ := idx_first hc
      refine ⟨a, bs.map V.bl, .bl b, bs.idxOf b, .bl b, rfl, rfl, sq, rfl, by simp [flatV], by rw [List.getElem?_map, i1]; rfl, by simp [eqV], fun m z hm hz => ?_, k _ H (Ex.refl _ _ _) S (.int _)⟩
      rw [List.getElem?_map] at hz
      cases q : bs[m]? with
      | none => rw [q] at hz; cases hz
      | some c =>
        rw [q] at hz
        cases hz
        have := i2 m hm
        rw [q] at this
        show (c == b) = false
        simpa using fun z => this (by rw [z])
    · cases e
  · cases e
end
/-- which refusal is of which kind -/
def subN (a b : Str) : Bool :=
  a == b || b == ("WayError" : Str) || b == ("ValueError" : Str) || (b == ("NoThing" : Str) && !(([("NoAsk" : Str), "Nothing", "TooMany", "NotNow"].contains a))) || (b == ("NotNow" : Str) && ([("NoAsk" : Str), "Nothing", "TooMany"].contains a))
def eIsE (i : Nat) (y : Str) : Ev := fun env h => match env[i]? with
  | some (some (.exn x)) => .ok (.val (.bool (subN x.cls y))) h
  | _ => .bad
/-- the exception that the context holds -/
structure Held (X : Cx) (C : Fc) (p : Addr × Obj) (x : Exn) (D : Addr) : Prop where
  pin : p ∈ X.pn
  z : Zc (.ref D) none p.2
  f : ∃ vs, p.2.data = .fields vs
  exc : C.exc = some (p.1, x)
  cls : ExcC X.K D
/-- what isinstance says of the class at D and the name y -/
def KitN (K : PySem.W.Frag) (mg : Str → Option Value) (D : Addr) (a y : Str) : Prop :=
  (∃ c : Addr, mg y = some (.ref c) ∧ PySem.W.kitOne K (.ref D) (.ref c) = some (subN a y)) ∨ (mg y = none ∧ y ≠ "__name__" ∧ ∃ n : String, bootBuiltins y = some (.type n) ∧ PySem.W.kitOne K (.ref D) (.type n) = some (subN a y))
section
variable {X : Cx} {C : Fc} {Wx : WX}
theorem call_held {p : Addr × Obj} {D : Addr} (hp : p ∈ X.pn) (E : ExcC X.K D) (hz : Zc (.ref D) none p.2) (hf : ∃ vs, p.2.data = .fields vs) : CallR X (.builtin "isinstance") (rIsE X.K D p.1) := by
  rintro pins s σ H xs us Q I r ⟨c, cv, b, rfl, hcv, e, q⟩
  cases r with
  | cons rx rr =>
    cases rr with
    | cons rt rr =>
      cases rr
      cases rx
      have ec := hcv _ rt
      subst ec
      have hget := (I.pin p (List.mem_append_left _ hp)).1
      obtain ⟨vs, hv⟩ := hf
      have J : PySem.W.InstAt s.heap p.1 p.2 D none := by
        obtain ⟨a, ⟨oc, od, oda, osl⟩⟩ := p
        obtain ⟨h1, h2⟩ := hz
        dsimp only at h1 h2 hv
        subst h1 h2 hv
        exact ⟨hget, rfl, rfl, trivial⟩
      exact PySem.W.kia_one (PySem.W.handS_kitx_exc E.hg E.hk E.hs E.hd E.ha E.hn E.ht E.hm) I.kIn J e (fun z => nomatch z) fun tk => ⟨.bl b, H, I.kept (t' := tk) fun _ _ z => z, rfl, q⟩
theorem fe_isE {p : Addr × Obj} {x : Exn} {D : Addr} {i : Nat} {n y : Str} {p1 p2 p3 pos : Pos} (hh : Held X C p x D) (hk : KitN X.K X.mg D x.cls y) (hg : Gl X "isinstance") (hm : X.mg "isinstance" = none) (hg2 : Gl X y)
    (hN : X.N[i]? = some n := by rfl) (hv : Vis X.env.scope n := by first | exact Or.inl rfl | exact Or.inr (Or.inl rfl) | exact Or.inr (Or.inr rfl)) (hd : (n == ("__debug__" : Str)) = false := by decide) (hcd : (n == ("__classdict__" : Str)) = false := by decide)
    (hd2 : (y == ("__debug__" : Str)) = false := by decide)
    (hs1 : starEach (.Name n p1 :: [.Name y p2]) X.env = (false, eval (.Name n p1) X.env) :: starEach [.Name y p2] X.env := by rfl) (hs2 : starEach (Expr.Name y p2 :: []) X.env = (false, eval (.Name y p2) X.env) :: starEach [] X.env := by rfl)
    (hpl : (backTo pos (starEach [Expr.Name y p2] X.env)).any (·.1) = false := by rfl) : FE X C Wx (.Call (.Name "isinstance" p3) [.Name n p1, .Name y p2] [] pos) (eIsE i y) := by
  have key : ∀ (c : V) (cv : Value), (∀ u, RelV c u → u = cv) → PySem.W.kitOne X.K (.ref D) cv = some (subN x.cls y) → PE X (.Name y p2) (tC c) → FE X C Wx (.Call (.Name "isinstance" p3) [.Name n p1, .Name y p2] [] pos) (eIsE i y) := by
    intro c cv hcv e hc
    have hA : PA X [.Name n p1, .Name y p2] (tCons (tVar i) (tCons (tC c) tNil)) := pa_cons (pe_var hN hv hd hcd) (pa_cons hc pa_nil hs2) hs1
    refine PE.imp (pe_callB (call_held hh.pin hh.cls hh.z hh.f) hg hm (by decide +kernel) hA (by decide) (by decide) hs1 hpl) ?_
    rintro σ H Q ⟨ρ, env, h, S, E, P⟩
    unfold eIsE at P
    split at P
    · rename_i z ez
      obtain ⟨v, e1, a, e2, rfl⟩ := E.at_ i _ ez
      rw [hh.exc] at e2
      cases e2
      exact ⟨_, e1, c, cv, _, rfl, hcv, e, P ρ _ H (Ex.refl _ _ _) S (.bl _)⟩
    · exact P.elim
  rcases hk with ⟨c, hc, e⟩ | ⟨hn, hnn, n', hb, e⟩
  · exact key (.ref c) (.ref c) (fun u r => r) e (pe_glob hg2 hc rfl hd2)
  · exact key (.ty n') (.type n') (fun u r => r) e (pe_bltn (v := .ty n') hg2 hn hb rfl hnn hd2)
end
end FL
theorem L2H.RoomH.units {k : Nat} {A : PySem.Around} (r : L2H.RoomH k A) : A.units + 64 < PySem.cLine := by have := r.un; omega
namespace FL
open PySem PySem.Spec PyProof.Rows L2
/-- what is known of an exception's class -/
structure KxOk (K : PySem.W.Frag) (mg : Str → Option Value) (ys : List Str) (x : Exn) (D : Addr) : Prop where
  g : mg x.cls = some (.ref D)
  fs : x.fs = []
  cls : ExcC K D
  kit : ∀ y ∈ ys, KitN K mg D x.cls y
def runW (nl : Nat) (fb : Sv) (x : Exn) : Option PyData := match fb (some (.exn x) :: List.replicate nl none) [] with
  | .ret (.val d) _ => some d
  | _ => none
structure FnW (P : Program) (w : World) (K : PySem.W.Frag) (mg : Str → Option Value) (base : Heap) (T : List (Addr × Str)) (k : Nat) (f : Addr) (fd : FuncData) (a : Str) (ys : List Str) (m : Exn → Option PyData) : Prop where
  run : ∀ (A : Around) (outer : List Env) (s : Shared) (H : Hp) (p : Addr × Obj) (x : Exn) (D : Addr) (d : PyData) (Q : VK) (Bar : Ms), BarOk H [] Bar → A.guards = some [] → L2H.RoomH k A → L2H.PinOk outer H s p → Zc (.ref D) none p.2 → (∃ vs, p.2.data = .fields vs) → KxOk K mg ys x D →
    Env0 P w K mg base A outer s H → LamX.Tabs T H → BindsTo s fd ⟨[.ref p.1], []⟩ [(a, .ref p.1)] → m x = some d → (∀ v H', FrmK T [] H H' → Rp K H' Bar v d → Q v H') →
    codeAny (model P w) A (.call (.ref f) ⟨[.ref p.1], []⟩) (CR (L2.CX P w) outer P w H s Q fun _ _ _ => False) s
theorem fnW {T : List (Addr × Str)} {P : Program} {w : World} {K : PySem.W.Frag} {mg : Str → Option Value} {base : Heap} {x0 qual a : Str} {st : Stmt} {f : Addr} {fd : FuncData} {N ys : List Str} {k : Nat} {fb : Sv} (F : Fun K x0 qual st f fd) (S : FnScope N [a] (defScope st))
    (hb : ∀ (cdv : Value) (A : Around) (outer : List Env) (s : Shared) (H : Hp) (p : Addr × Obj) (x : Exn) (D : Addr) (C : Fc), C.T = T → A.guards = some [] → L2H.RoomH k (A.deeper (envOfC qual (defScope st) s.heap.objs.size f cdv)) →
      Held (L2H.cxH (L2.CX P w) P w K mg base N qual (defScope st) f cdv A outer s H (fun _ _ _ => False) p) C p x D → KxOk K mg ys x D → FSs (L2H.cxH (L2.CX P w) P w K mg base N qual (defScope st) f cdv A outer s H (fun _ _ _ => False) p) C W0 (defBody st) fb) :
    FnW P w K mg base T (k + 1) f fd a ys (runW (N.length - 1) fb) := by
  obtain ⟨oc, od, kV, doc, pm, an, cdv, ct, osl, rfl, lk, hcd⟩ := F.ex
  constructor
  intro A outer s H p x D d Q Bar hB hg hr hpin hz hf hx e0 tb hbn em hq
  have up : ∀ b o, base.get? b = some o → s.heap.get? b = some o := fun b o e => (e0.bs b o e).1
  have kin : K.In s.heap := e0.mod.kin.keeps up
  have kinds : ∀ y ∈ [a].zip [Value.ref p.1], (defScope st).names.lookup y.1 = some .local ∨ ((defScope st).names.lookup y.1 = some .cell ∧ ((cellsFrom (s.heap.objs.size + 1) (defScope st).names []).lookup y.1).isSome = true) := by
    rintro ⟨n, v⟩ hy
    exact (S.par n (List.of_mem_zip hy).1).imp id fun q => ⟨q, PySem.W.cellsFrom_some _ _ _ (.inl q)⟩
  refine codeAny_call_function hr.depth (kin _ _ lk) rfl S.co S.gen rfl (PySem.W.codeRec_of kin hcd) (hbn _ _ _ _ (wpAny_newFunctionEnv_cells S.kind kinds ?_))
  intro env he s1 x1
  subst he
  have I := L2H.inv_startH (CX := L2.CX P w) (f := f) (cd := cdv) (E := fun _ _ _ => False) S hpin e0 (vs := [.ref p.1]) (us := [.ref p.1]) rfl (.cons rfl .nil) x1
  have hl : 1 ≤ N.length := by
    have := congrArg List.length S.pre
    rw [List.length_take] at this
    simp at this
    omega
  have rdg : rdS K mg ⟨H, [], Bar, T, some (p.1, x)⟩ W0 fb { nx := fun _ H' => Q .non H', rt := Q } (start N [.ref p.1]) H := by
    refine ⟨[], some (.exn x) :: List.replicate (N.length - 1) none, [], ⟨rfl, by simp, fun a m => (nomatch m), fun n fp o e _ => by simp at e, fun b o e _ => ⟨o, e, .inl rfl⟩, fun a m => (nomatch m), fun b z => ⟨by simp, (hB.1 b z).2⟩, fun a m => (nomatch m), fun n fp e => by simp at e, tb, hB.2⟩, ⟨?_, fun i s' e => ?_⟩, ?_⟩
    · unfold L2.start
      simp
    · cases i with
      | zero =>
        have e' : some (some (Sl.exn x)) = some (some s') := e
        cases e'
        exact ⟨.ref p.1, rfl, p.1, rfl, rfl⟩
      | succ i =>
        rw [List.getElem?_cons_succ, List.getElem?_replicate] at e
        split at e <;> cases e
    · unfold runW at em
      split at em
      · rename_i d0 h0 q0
        cases em
        rw [q0]
        intro ρ' v H' st' S' r
        exact hq v H' ⟨fun b o e n => S'.frK b o e (fun z => nomatch z), S'.tab⟩ (Rp.fewer (fun _ z => .inr z) r)
      · cases em
  refine ⟨(e0.mod.nolimit.keeps up).keeps x1.toInCall.keep, codeAny_func (wpAny_mono ((hb cdv A outer s H p x D _ rfl hg (hr.deeper _) ⟨List.mem_singleton.mpr rfl, hz, hf, rfl, hx.cls⟩ hx).run [] s1 (start N [.ref p.1]) H _ I rdg) ?_ fun e s' hs => hs)⟩
  intro fl s' hs
  match fl, hs with
  | .ret u, hs => obtain ⟨v, _, H', J, rv, q⟩ := hs; exact ⟨v, H', J.os, J.bare, J.base, J.hok, rv, q⟩
  | .next, hs => obtain ⟨_, H', J, q⟩ := hs; exact ⟨V.non, H', J.os, J.bare, J.base, J.hok, rfl, q⟩
  | .brk, hs => obtain ⟨_, _, _, q⟩ := hs; exact False.elim q
  | .cont, hs => obtain ⟨_, _, _, q⟩ := hs; exact False.elim q
end FL
namespace FL
open PySem PySem.Spec PyProof.Rows L2
def eSaid (tup : Bool) (R : List Str) (mw : Exn → Option PyData) (fe : Ev) : Ev := fun env h => match fe env h with
  | .ok (.val d) h' => .ok (.val (.tuple [.str "told", d])) h'
  | .err x h' => if R.contains x.cls && x.fs.isEmpty then (match mw x with
    | some d => .ok (.val (if tup then .tuple [d] else d)) h'
    | none => .bad) else .bad
  | _ => .bad
/-- a lambda was made -/
def Made (H : Hp) (P c' : Addr) (q : Str) (H1 : Hp) : Prop := H1 = H ∨ ∃ ps ps' : Array Value, H P = some (.tbl ps) ∧ H c' = none ∧ H1 = upd (upd H P (.tbl ps')) c' (LamX.CodeO c' q)
theorem Made.keep {H H1 : Hp} {P c' : Addr} {q : Str} (m : Made H P c' q H1) {b : Addr} {o : HO} (e : H b = some o) : ∃ o', H1 b = some o' ∧ Kp o o' := by
  rcases m with rfl | ⟨ps, ps', hP, hc, rfl⟩
  · exact ⟨o, e, .inl rfl⟩
  · have nc : b ≠ c' := ne_of_none e hc
    by_cases hb : b = P
    · subst hb
      rw [hP] at e
      cases e
      exact ⟨.tbl ps', by rw [upd_ne nc, upd_same], .inr ⟨ps, ps', rfl, rfl⟩⟩
    · exact ⟨o, by rw [upd_ne nc, upd_ne hb]; exact e, .inl rfl⟩
def KeepA (H H1 : Hp) : Prop := ∀ b o, H b = some o → ∃ o', H1 b = some o' ∧ Kp o o'
theorem KeepA.ex {C : Fc} {ρ : Fps} {H H1 : Hp} (m : KeepA H H1) : Ex C ρ H ρ H1 := ⟨⟨fun b o e _ => m b o e, fun _ z => .inl z⟩, fun _ fp e => ⟨fp, e, pfx_rfl⟩⟩
theorem KeepA.sim {K : PySem.W.Frag} {C : Fc} {ρ : Fps} {h : Hs} {H H1 : Hp} (m : KeepA H H1) (S : SimH K C ρ h H) (t : LamX.Tabs C.T H1) : SimH K C ρ h H1 where
  len := S.len
  nd := S.nd
  trk := fun a z => by
    obtain ⟨o, e⟩ := S.trk a z
    obtain ⟨o', e', _⟩ := m _ _ e
    exact ⟨o', e'⟩
  obj := fun n fp o e1 e2 => ObOk.stp (m.ex (C := C) (ρ := ρ)).stp (fun a z => by
    obtain ⟨u, eu, nu⟩ := (S.obj n fp o e1 e2).nte z
    obtain ⟨o', e', k⟩ := m _ _ eu
    rw [e', eu, k.nt nu.1]) (S.obj n fp o e1 e2)
  frK := fun b o e n => by
    obtain ⟨o1, e1, k1⟩ := S.frK b o e n
    obtain ⟨o2, e2, k2⟩ := m _ _ e1
    exact ⟨o2, e2, k1.trans k2⟩
  own := S.own
  bar := fun b z => by
    obtain ⟨n, o, e⟩ := S.bar b z
    obtain ⟨o', e', _⟩ := m _ _ e
    exact ⟨n, o', e'⟩
  wtr := fun a z => by
    obtain ⟨o, e⟩ := S.wtr a z
    obtain ⟨o', e', _⟩ := m _ _ e
    exact ⟨o', e'⟩
  pre := S.pre
  tab := t
  bnt := fun b xs m1 z => by
    obtain ⟨_, o, e⟩ := S.bar b m1
    obtain ⟨o', e', k⟩ := m _ _ e
    rw [z] at e'
    cases e'
    rcases k with k | ⟨p, q, _, k⟩
    · exact S.bnt b xs m1 (by rw [e, k])
    · exact xs.ntbl k
theorem Made.ex {C : Fc} {ρ : Fps} {H H1 : Hp} {P c' : Addr} {q : Str} (m : Made H P c' q H1) : Ex C ρ H ρ H1 := ⟨⟨fun _ _ e _ => m.keep e, fun _ z => .inl z⟩, fun _ fp e => ⟨fp, e, pfx_rfl⟩⟩
theorem Made.sim {K : PySem.W.Frag} {C : Fc} {ρ : Fps} {h : Hs} {H H1 : Hp} {P c' : Addr} {q : Str} (m : Made H P c' q H1) (S : SimH K C ρ h H) (t : LamX.Tabs C.T H1) : SimH K C ρ h H1 := KeepA.sim (fun _ _ e => m.keep e) S t
/-- what is at a code object is no object of the def's own -/
theorem SimH.noExt {K : PySem.W.Frag} {C : Fc} {ρ : Fps} {h : Hs} {H : Hp} (S : SimH K C ρ h H) {b : Addr} {f} (e : H b = some (.ext f)) : b ∉ ρ.flatten := fun z => by
  obtain ⟨fp, h1, h2⟩ := List.mem_flatten.mp z
  obtain ⟨n, hn, en⟩ := List.getElem_of_mem h1
  have hl : n < h.length := by rw [← S.len]; exact hn
  obtain ⟨u, eu, nu⟩ := (S.obj n fp _ (by rw [← en]; exact List.getElem?_eq_getElem hn) (List.getElem?_eq_getElem hl)).nte h2
  rw [e] at eu
  cases eu
  exact nu.2 _ rfl
def exD : Exn := ⟨"", []⟩
/-- the call of what was handed over -/
def eAct (fe : Ev) (env : En) : Ev := fun e2 h => match e2[0]? with
  | some (some (Sl.exn _)) => (match fe env h with
    | .ok (.val d) h' => .ok (.val d) h'
    | .err x h' => .err x h'
    | _ => .bad)
  | _ => .bad
section
variable {X : Cx} {C : Fc} {Wx : WX}
/-- word(e), in the suite that holds e -/
theorem pe_word {Z : Cx} {T : List (Addr × Str)} {a fw : Addr} {oe : Obj} {pn : List (Addr × Obj)} {kw : Nat} {fdw : FuncData} {pw n x0 : Str} {ys : List Str} {mw : Exn → Option PyData} {i : Nat} {p p2 pos : Pos} {cls : Value} {dd : Option Addr}
    (hz : Zc cls dd oe) (hf : ∃ vs, oe.data = .fields vs) (FW : FnW Z.prog Z.w Z.K Z.mg Z.base T kw fw fdw pw ys mw) (hgd : Z.A.guards = some []) (hr : L2H.RoomH kw Z.A) (hb : Binds Z.K fdw [pw] []) (hg : Gl Z x0) (hm : Z.mg x0 = some (.ref fw)) (hk : PySem.W.keepIn Z.K (.ref fw) = true)
    (hN : Z.N[i]? = some n) (hv : Vis Z.env.scope n) (hd : (n == ("__debug__" : Str)) = false) (hcd : (n == ("__classdict__" : Str)) = false) (hdb : (x0 == ("__debug__" : Str)) = false)
    (he : starEach [.Name n p2] Z.env = (false, eval (.Name n p2) Z.env) :: starEach [] Z.env) (hpl : (backTo pos (starEach [] Z.env)).any (·.1) = false) :
    PE (Z.suite a ((a, oe) :: pn)) (.Call (.Name x0 p) [.Name n p2] [] pos) fun τ G Q => τ[i]? = some (some (.ref a)) ∧ LamX.Tabs T G ∧ ∃ (x : Exn) (D : Addr) (d : PyData) (Bar : Ms), cls = .ref D ∧ dd = none ∧ KxOk Z.K Z.mg ys x D ∧ mw x = some d ∧ BarOk G [] Bar ∧ ∀ v G', FrmK T [] G G' → Rp Z.K G' Bar v d → Q v G' := by
  constructor
  rintro pins s τ G Q J ⟨hτ, tb, x, D, d, Bar, rfl, rfl, kx, em, hB, hq⟩
  refine wpAny_Call_Name_kw (ld_glob (X := Z.suite a ((a, oe) :: pn)) J hg hm ?_ hdb)
  have hA : PA (Z.suite a ((a, oe) :: pn)) [.Name n p2] (tCons (tVar i) tNil) := pa_cons (pe_var (X := Z.suite a ((a, oe) :: pn)) hN hv hd hcd) pa_nil he
  refine PySem.W.callWith_K (h₀ := Z.base) J.ok.mod.kin hk (thn (hA.run pos pins s τ G (fun vs G1 => vs = [.ref a] ∧ G1 = G) J ⟨_, hτ, rfl, rfl⟩) ?_) he hpl
  rintro us s1 ⟨vs, G1, J1, r, rfl, rfl⟩
  obtain ⟨u, rfl, ru⟩ := Vals.one r
  cases (show u = Value.ref a from ru)
  have P1 := J1.pin (a, oe) (List.mem_append_left _ List.mem_cons_self)
  have pin : L2H.PinOk Z.stack G1 s1 (a, oe) := ⟨P1.1, P1.2.1, fun z => (List.mem_cons.mp (J1.stkSub a z)).elim P1.2.2.1 P1.2.2.2.1, P1.2.2.2.2⟩
  have b := hb s1 [.ref a] J1.kIn rfl
  refine ⟨J1.kIn, wpAny_call (codeAny_mono (FW.run (Z.A.mark (some (.ref a))) Z.stack s1 G1 (a, oe) x D d Q Bar hB hgd ⟨hr.dp, hr.un⟩ pin hz hf kx J1.env0 tb b em hq) ?_)⟩
  rintro (er | fl) s' h'
  · obtain ⟨_, _, _, _, _, _, _, _, _, _, _, _, z⟩ := h'
    exact z.elim
  · cases fl with
    | ret u => exact J1.after h'
    | _ => exact False.elim h'
end
end FL
namespace FL
open PySem PySem.Spec PyProof.Rows L2
/-- the suite's answer: (word(e),) or word(e) -/
inductive RetW : Bool → Expr → Prop
  | tup {q1 q2 q3 q4 : Pos} {k} : RetW true (.Tuple [.Call (.Name "_law_word" q1) [.Name "_law_e" q2] [] q3] k q4)
  | one {q1 q2 q3 : Pos} : RetW false (.Call (.Name "_law_word" q1) [.Name "_law_e" q2] [] q3)
/-- what a def that makes lambdas must know -/
structure SaidOk (X : Cx) (T : List (Addr × Str)) (kw : Nat) (g fw : Addr) (stS : Stmt) (fdS fdw : FuncData) (pw : Str) (ys R : List Str) (mw : Exn → Option PyData) (tup : Bool) : Prop where
  fun_ : Fun X.K "_law_said" "_law_said" stS g fdS
  mg : X.mg "_law_said" = some (.ref g)
  word : FnW X.prog X.w X.K X.mg X.base T kw fw fdw pw ys mw
  mgW : X.mg "_law_word" = some (.ref fw)
  kpW : PySem.W.keepIn X.K (.ref fw) = true
  bW : Binds X.K fdw [pw] []
  bS : Binds X.K fdS ["_law_call"] []
  sc : FnScope ["_law_call", "_law_e"] ["_law_call"] (defScope stS)
  sv0 : Vis (defScope stS) "_law_call"
  sl1 : (defScope stS).names.lookup ("_law_e" : Str) = some .local
  gW : (defScope stS).names.lookup ("WayError" : Str) = some .globalImplicit
  gO : (defScope stS).names.lookup ("_law_word" : Str) = some .globalImplicit
  body : ∃ (j : Nat) (kt : _) (ret : Expr) (q1 q2 q3 q4 q5 q6 q7 q8 q9 : Pos), RetW tup ret ∧ defBody stS = [.Try [.Return (some (.Tuple [.Constant (.str "told") j q1, .Call (.Name "_law_call" q2) [] [] q3] kt q4)) q5] [.ExceptHandler (some (.Name "WayError" q6)) (some "_law_e") [.Return (some ret) q7] q8] [] [] q9]
  way : ∃ CW : Addr, X.mg "WayError" = some (.ref CW) ∧ ∀ x : Exn, R.contains x.cls = true → x.fs = [] → ∃ D, KxOk X.K X.mg ys x D ∧ PySem.W.exmOne X.K (.ref D) (.ref CW) = some true
/-- what the suite wants -/
def tsSaid (K : PySem.W.Frag) (mg : Str → Option Value) (T : List (Addr × Str)) (ys : List Str) (mw : Exn → Option PyData) (tup : Bool) : Addr → Value → Option Addr → TS := fun a cls dd D τ G =>
  τ[1]? = some (some (.ref a)) ∧ LamX.Tabs T G ∧ ∃ (x : Exn) (Dc : Addr) (d : PyData) (Bar : Ms), cls = .ref Dc ∧ dd = none ∧ KxOk K mg ys x Dc ∧ mw x = some d ∧ BarOk G [] Bar ∧ ∀ v G', FrmK T [] G G' → Rp K G' Bar v (if tup then .tuple [d] else d) → D.rt v G'
end FL
theorem L2.Room.u65 {k : Nat} {A : PySem.Around} (r : L2.Room k A) : A.units + 65 < PySem.cLine := by have := r.un; omega
theorem L2H.RoomH.u65 {k : Nat} {A : PySem.Around} (r : L2H.RoomH k A) : A.units + 65 < PySem.cLine := by have := r.un; omega
namespace FL
open PySem PySem.Spec PyProof.Rows L2
def gRepr : GL := fun ss h => match ss with
  | [s] => match dat s h with
    | some d => if shp d && d.showable && decide (d.shown.length ≤ 16777216) then some (.str d.shown) else none
    | none => none
  | _ => none
section
variable {X : Cx} {C : Fc}
theorem call_repr (hg : X.A.guards = some []) (hu : X.A.units + 65 < cLine) : CallR X (.builtin "repr") fun xs H Q => ∃ v d, xs = [v] ∧ Dp X.K H v d ∧ shp d = true ∧ d.showable = true ∧ d.shown.length ≤ sizeLine ∧ Q (.str d.shown) H := by
  rintro pins s σ H xs us Q I r ⟨v, d, rfl, hd, sd, sh, hz, q⟩
  obtain ⟨u, rfl, ru⟩ := Vals.one r
  have fin : ∀ tk t, EP X pins σ Q (.str d.shown t) { s with toks := tk } := fun tk t => ⟨.str d.shown, H, I.tok _, ⟨_, rfl⟩, q⟩
  have nd : d.hasDict = false := PyData.hasDict_of_canLay d (SeqAt.canLay_of_shaped sd)
  have dp := SeqAt.depth_of_shaped sd
  have big : ∀ a, u = .ref a → wpAny (model X.prog X.w) X.A (call (.builtin "repr") [u]) (EP X pins σ Q) X.xe s := by
    rintro a rfl
    obtain ⟨as, rr⟩ := Dp.reads I d v _ hd ru
    exact repr_of_reads' rr sh (PyData.noDict_hsm nd) hg (by omega) (fun _ _ e => e) (fun h' t tk hk => ⟨.str d.shown, H, I.kept (t' := tk) hk, ⟨_, rfl⟩, q⟩) hz
  cases hd with
  | non => cases ru; exact PySem.P.repr_of_none (fin _ _)
  | bl b => cases ru; exact PySem.P.repr_of_bool (fin _ _)
  | int i =>
    obtain ⟨t, rfl⟩ := ru
    exact PySem.P.repr_of_int (of_decide_eq_true sh) (fin _ _)
  | str x =>
    obtain ⟨t, rfl⟩ := ru
    exact PySem.P.repr_of_str (fin _ _) hz
  | lst _ _ => exact big _ ru
  | tup _ _ => exact big _ ru
theorem c_repr (hg : X.A.guards = some []) (hu : X.A.units + 65 < cLine) : CallR X (.builtin "repr") (rdC X.K C gRepr) := fun pins s σ H xs us Q I r ⟨ρ, h, ss, d, S, r1, e, k⟩ => by
  refine call_repr hg hu pins s σ H xs us Q I r ?_
  unfold gRepr at e
  split at e
  · rename_i t
    split at e
    · rename_i z ez
      split at e
      · rename_i c
        rw [Bool.and_eq_true, Bool.and_eq_true] at c
        obtain ⟨⟨c1, c2⟩, c3⟩ := c
        cases e
        obtain ⟨y, rfl, ry⟩ := SlVs.one r1
        exact ⟨y, z, rfl, dat_rel S ry ez (shp_nd c1), c1, c2, by rw [sizeLine_eq]; exact of_decide_eq_true c3, k _ H (Ex.refl _ _ _) S (.str _)⟩
      · cases e
    · cases e
  · cases e
end
end FL
namespace FL
open PySem PySem.Spec PyProof.Rows L2
/-- a def whose lambdas' table is tracked -/
structure LamOk (base : Heap) (mg : Str → Option Value) (T : List (Addr × Str)) (fd : FuncData) (q : Str) : Prop where
  ex : ∃ c P, fd.code = .ref c ∧ LamX.TabB base mg c P ∧ (P, q) ∈ T ∧ ∀ p ∈ T, p.1 = P → p.2 = q
/-- said and its word, whatever the context -/
structure SaidAll (P : Program) (w : World) (K : PySem.W.Frag) (mg : Str → Option Value) (base : Heap) (T : List (Addr × Str)) (kw : Nat) (stS : Stmt) (ys R : List Str) (mw : Exn → Option PyData) (tup : Bool) : Prop where
  ex : ∃ (g fw : Addr) (fdS fdw : FuncData) (pw : Str), ∀ X : Cx, X.prog = P → X.w = w → X.K = K → X.mg = mg → X.base = base → SaidOk X T kw g fw stS fdS fdw pw ys R mw tup
@[simp] theorem v_said {tup : Bool} {R : List Str} {mw : Exn → Option PyData} {fe : Ev} {env : En} {h h' : Hs} {d : PyData} (e : fe env h = .ok (.val d) h') : eSaid tup R mw fe env h = .ok (.val (.tuple [.str "told", d])) h' := by
  unfold eSaid
  rw [e]
def eCatN (f1 f2 : Ev) : Ev := fun env h => (f1 env h).bind fun s h => (f2 env h).bind fun t h => match litems s h, litems t h with
  | some a, some b => if lineOk (a.length + b.length) then .ok (.loc h.length) (h ++ [.lst (a ++ b)]) else .bad
  | _, _ => .bad
theorem fe_catN {X : Cx} {C : Fc} {Wx : WX} {a b : Expr} {f1 f2 : Ev} {pos : Pos} (ha : FE X C Wx a f1) (hb : FE X C Wx b f2) : FE X C Wx (.BinOp a .Add b pos) (eCatN f1 f2) := PE.imp (pe_op op_catP ha hb) fun σ H Q p => by
  refine rd.bind (f := f1) (g := fun s env h => (f2 env h).bind fun t h => match litems s h, litems t h with
    | some a, some b => if lineOk (a.length + b.length) then (.ok (.loc h.length) (h ++ [.lst (a ++ b)]) : Rz Sl) else .bad
    | _, _ => .bad) p fun ρ1 env h1 s x H1 S1 E1 r1 P1 => ?_
  refine rd.of (env := env) (h := h1) S1 E1 ?_
  cases e : f2 env h1 with
  | err y h2 => rw [e] at P1; exact P1
  | bad => rw [e] at P1; exact P1
  | ok t h2 =>
    intro ρ2 y H2 x2 S2 r2
    rw [e, v_bind] at P1
    have P2 := Po.ex x2 P1
    split at P2
    · rename_i da db e1 e2
      split at P2
      · rename_i hl
        obtain ⟨p1, v1, rfl, q1, a1⟩ := litems_pl S2 (SlV.ex x2 r1) e1
        obtain ⟨p2, v2, rfl, q2, a2⟩ := litems_pl S2 r2 e2
        refine ⟨_, _, _, _, rfl, rfl, q1, q2, by rw [a1.length, a2.length]; exact lineOk_le hl, fun p hp => P2 (ρ2 ++ [[p]]) (.ref p) _ (Ex.push hp) (push_lst S2 hp (a1.append a2)) ?_⟩
        rw [← S2.len]
        exact SlV.pushed _
      · exact P2.elim
    · exact P2.elim
end FL
namespace FL
open PySem PySem.Spec PyProof.Rows L2
theorem fe_dnil {X : Cx} {C : Fc} {Wx : WX} {pos : Pos} : FE X C Wx (.Dict [] [] pos) (eK (.dict [])) := PE.imp pe_dnewK fun σ H Q ⟨ρ, env, h, S, E, P⟩ => fun p hp =>
  P ρ (.ref p) _ (Ex.laid S hp) (S.laid hp) (.dct (.dic []) ⟨.inl upd_same, S.fresh hp⟩ rfl)
theorem fe_d1 {X : Cx} {C : Fc} {Wx : WX} {i j : Int} {k1 k2 : Nat} {p1 p2 pos : Pos} : FE X C Wx (.Dict [some (.Constant (.int i) k1 p1)] [.Constant (.int j) k2 p2] pos) (eK (.dict [(.int i, .int j)])) :=
  PE.imp (pe_disp (pps_cons pe_int pe_int pps_nil) rfl rfl (by simp) (by simp)) fun σ H Q ⟨ρ, env, h, S, E, P⟩ => fun p hp => by
    refine ⟨upd_same, [(.inl i, .int j)], rfl, by simp, ?_⟩
    rw [upd_upd]
    exact P ρ (.ref p) _ (Ex.laid S hp) (S.laid hp) (.dct (.dic [(i, j)]) ⟨.inl upd_same, S.fresh hp⟩ rfl)
end FL
namespace FL
open PySem PySem.Spec PyProof.Rows L2
def kitB (K : PySem.W.Frag) (D : Addr) (a y : Str) : Bool := match PySem.W.nsIn K mainGlobals y with
  | some (some (.ref c)) => PySem.W.kitOne K (.ref D) (.ref c) == some (subN a y)
  | some none => (!(y == ("__name__" : Str))) && (match bootBuiltins y with
    | some (.type n) => PySem.W.kitOne K (.ref D) (.type n) == some (subN a y)
    | _ => false)
  | _ => false
theorem kitB_ok {K : PySem.W.Frag} {h : Heap} {mg : Str → Option Value} {D : Addr} {a y : Str} (X : K.In h) (G : h.Ns mainGlobals mg) (e : kitB K D a y = true) : KitN K mg D a y := by
  unfold kitB at e
  split at e
  · rename_i c hc
    exact .inl ⟨c, PySem.W.mg_of X G hc, eq_of_beq e⟩
  · rename_i hc
    obtain ⟨e1, e2⟩ := Bool.and_eq_true_iff.mp e
    split at e2
    · rename_i n hn
      refine .inr ⟨PySem.W.mg_none_of X G hc, fun z => ?_, n, hn, eq_of_beq e2⟩
      rw [z] at e1
      cases e1
    · cases e2
  · cases e
def excB (K : PySem.W.Frag) (D : Addr) : Bool :=
  PySem.W.findIn K (.ref D) "__getattribute__" == some (some (.builtin "BaseException.__getattribute__")) && PySem.W.findIn K (.ref D) "__getattr__" == some none && PySem.W.subIn K (.ref D) (.type "BaseException") == some true &&
  PySem.W.hasDictIn K D && PySem.W.findIn K (.ref D) "__class__" == some (some (.builtin "object.__class__")) && PySem.W.specialIn K (.builtin "object.__class__") "__get__" == some (some (.builtin "getset_descriptor.__get__")) &&
  PySem.W.takesIn K (.builtin "object.__class__") == some true && PySem.W.mroIn K D (.type "object") == some true
theorem excB_ok {K : PySem.W.Frag} {D : Addr} (e : excB K D = true) : ExcC K D := by
  unfold excB at e
  simp only [Bool.and_eq_true] at e
  obtain ⟨⟨⟨⟨⟨⟨⟨h1, h2⟩, h3⟩, h4⟩, h5⟩, h6⟩, h7⟩, h8⟩ := e
  exact ⟨eq_of_beq h1, eq_of_beq h2, eq_of_beq h3, h4, eq_of_beq h5, eq_of_beq h6, eq_of_beq h7, eq_of_beq h8⟩
/-- a class of refusals without fields, with all that is asked of it -/
def clsB (K : PySem.W.Frag) (x : Str) : Bool := match PySem.W.nsIn K mainGlobals x with
  | some (some (.ref D)) => PySem.W.excIn K D [.type "ValueError", .type "Exception", .type "BaseException", .type "object"] "ValueError.__new__" && PySem.W.keepIn K (.ref D) && PySem.W.subIn K (.ref D) (.type "BaseException") == some true && PySem.W.typeIn K (.ref D) == some (.type "type")
  | _ => false
theorem clsB_ok {K : PySem.W.Frag} {h : Heap} {mg : Str → Option Value} {x : Str} (X : K.In h) (G : h.Ns mainGlobals mg) (e : clsB K x = true) : ∃ c, ExCls K mg x c := by
  unfold clsB at e
  split at e
  · rename_i D hD
    simp only [Bool.and_eq_true] at e
    obtain ⟨⟨⟨h1, h2⟩, h3⟩, h4⟩ := e
    exact ⟨D, PySem.W.mg_of X G hD, h1, h2, eq_of_beq h3, eq_of_beq h4⟩
  · cases e
def heldB (K : PySem.W.Frag) (ys : List Str) (cw x : Str) : Bool := match PySem.W.nsIn K mainGlobals x, PySem.W.nsIn K mainGlobals cw with
  | some (some (.ref D)), some (some (.ref CW)) => excB K D && PySem.W.exmOne K (.ref D) (.ref CW) == some true && ys.all (kitB K D x)
  | _, _ => false
theorem heldB_ok {K : PySem.W.Frag} {h : Heap} {mg : Str → Option Value} {ys R : List Str} {cw : Str} (X : K.In h) (G : h.Ns mainGlobals mg) (e0 : R.isEmpty = false) (e : R.all (heldB K ys cw) = true) :
    ∃ CW : Addr, mg cw = some (.ref CW) ∧ ∀ x : Exn, R.contains x.cls = true → x.fs = [] → ∃ D, KxOk K mg ys x D ∧ PySem.W.exmOne K (.ref D) (.ref CW) = some true := by
  have key : ∀ x ∈ R, ∃ D CW, mg x = some (.ref D) ∧ mg cw = some (.ref CW) ∧ ExcC K D ∧ PySem.W.exmOne K (.ref D) (.ref CW) = some true ∧ ∀ y ∈ ys, KitN K mg D x y := fun x hx => by
    have e1 := List.all_eq_true.mp e x hx
    unfold heldB at e1
    split at e1
    · rename_i D CW h1 h2
      simp only [Bool.and_eq_true] at e1
      obtain ⟨⟨k1, k2⟩, k3⟩ := e1
      exact ⟨D, CW, PySem.W.mg_of X G h1, PySem.W.mg_of X G h2, excB_ok k1, eq_of_beq k2, fun y hy => kitB_ok X G (List.all_eq_true.mp k3 y hy)⟩
    · cases e1
  cases R with
  | nil => cases e0
  | cons r0 R =>
    obtain ⟨_, CW, _, hCW, _⟩ := key r0 List.mem_cons_self
    refine ⟨CW, hCW, fun x hx hf => ?_⟩
    obtain ⟨D, CW', g1, g2, g3, g4, g5⟩ := key x.cls (by simpa using hx)
    have : CW' = CW := by
      rw [hCW] at g2
      cases g2
      rfl
    subst this
    exact ⟨D, ⟨g1, hf, g3, g5⟩, g4⟩
theorem tabIn_code {K : PySem.W.Frag} {x : Str} {f c P : Addr} {oc : Value} {od : Option Addr} {fd : FuncData} {sl : Array (Option Value)} (a : PySem.W.nsIn K mainGlobals x = some (some (.ref f))) (l : K.lookup f = some ⟨oc, od, .func fd, sl⟩) (t : PySem.W.tabIn K x = some (c, P)) : fd.code = .ref c := by
  unfold PySem.W.tabIn at t
  rw [a] at t
  dsimp only at t
  rw [l] at t
  dsimp only at t
  split at t
  · rename_i c' hc'
    split at t
    · split at t
      · cases t
        exact hc'
      · cases t
    · cases t
  · cases t
theorem uniq_keys {TT : List (Addr × Str)} {P : Addr} {q : Str} (nd : (TT.map (·.1)).Nodup) (m : (P, q) ∈ TT) : ∀ p ∈ TT, p.1 = P → p.2 = q := by
  induction TT with
  | nil => cases m
  | cons a r ih =>
    rw [List.map_cons, List.nodup_cons] at nd
    intro p hp e
    rcases List.mem_cons.mp m with m1 | m1
    · subst m1
      rcases List.mem_cons.mp hp with z | z
      · rw [z]
      · exact absurd (List.mem_map.mpr ⟨p, z, e⟩) nd.1
    · rcases List.mem_cons.mp hp with z | z
      · subst z
        exact absurd (List.mem_map.mpr ⟨(P, q), m1, e.symm⟩) nd.1
      · exact ih nd.2 m1 p z e
def tcOf (K : PySem.W.Frag) (x : Str) : Addr := ((PySem.W.tabIn K x).getD (0, 0)).1
def tpOf (K : PySem.W.Frag) (x : Str) : Addr := ((PySem.W.tabIn K x).getD (0, 0)).2
def lamQ (x : Str) : Str := x ++ ".<locals>." ++ "<lambda>"
def tabC (K : PySem.W.Frag) (xs : List Str) : List (Addr × Addr) := xs.map fun x => (tcOf K x, tpOf K x)
def tabT (K : PySem.W.Frag) (xs : List Str) : List (Addr × Str) := xs.map fun x => (tpOf K x, lamQ x)
def tabsB (K : PySem.W.Frag) (xs : List Str) : Bool := (xs.all fun x => (PySem.W.tabIn K x).isSome && (K.lookup (tpOf K x)).isNone) && decide ((xs.map (tpOf K)).Nodup)
theorem tabsB_ok {h : Heap} {K : PySem.W.Frag} {p : Program} {loose : List Str} {mean : ExcName → Option Value} {mg mb : Str → Option Value} {xs : List Str} (T : Top p loose mean mg mb h) (X : K.In h) (hr : ∀ x ∈ xs, ∃ d, (recsOf p).find? (fun e => e.name == x) = some d)
    (e : tabsB K xs = true) : TabsAt h K (tabC K xs) ∧ (∀ p ∈ tabT K xs, p.1 ∈ (tabC K xs).map (·.2)) ∧ ((tabT K xs).map (·.1)).Nodup ∧ ∀ x ∈ xs, PySem.W.tabIn K x = some (tcOf K x, tpOf K x) := by
  unfold tabsB at e
  obtain ⟨e1, e2⟩ := Bool.and_eq_true_iff.mp e
  have at_ : ∀ x ∈ xs, PySem.W.tabIn K x = some (tcOf K x, tpOf K x) ∧ K.lookup (tpOf K x) = none := fun x hx => by
    have q := List.all_eq_true.mp e1 x hx
    obtain ⟨q1, q2⟩ := Bool.and_eq_true_iff.mp q
    refine ⟨?_, by simpa using q2⟩
    obtain ⟨⟨c, P⟩, hc⟩ := Option.isSome_iff_exists.mp q1
    unfold tcOf tpOf
    rw [hc]
    rfl
  have each : ∀ x ∈ xs, PySem.W.CodeHd h (tcOf K x) (tpOf K x) ∧ h.get? (tpOf K x) = some (PySem.W.tabObj #[]) := fun x hx => by
    obtain ⟨d, hd⟩ := hr x hx
    exact PySem.W.tab_of T X hd (at_ x hx).1
  refine ⟨⟨fun p hp => ?_, fun p hp => ?_, fun p hp => ?_⟩, fun p hp => ?_, ?_, fun x hx => (at_ x hx).1⟩
  · obtain ⟨x, hx, rfl⟩ := List.mem_map.mp hp
    exact (each x hx).2
  · obtain ⟨x, hx, rfl⟩ := List.mem_map.mp hp
    exact (at_ x hx).2
  · obtain ⟨x, hx, rfl⟩ := List.mem_map.mp hp
    exact (each x hx).1
  · obtain ⟨x, hx, rfl⟩ := List.mem_map.mp hp
    exact List.mem_map.mpr ⟨(tcOf K x, tpOf K x), List.mem_map.mpr ⟨x, hx, rfl⟩, rfl⟩
  · have e3 : (xs.map (tpOf K)).Nodup := of_decide_eq_true e2
    unfold tabT
    rw [List.map_map]
    exact e3
theorem lamOk_of {K : PySem.W.Frag} {base : Heap} {mg : Str → Option Value} {xs : List Str} {x : Str} {f : Addr} {oc : Value} {od : Option Addr} {fd : FuncData} {sl : Array (Option Value)} (hx : x ∈ xs) (nd : ((tabT K xs).map (·.1)).Nodup) (t : ∀ x ∈ xs, PySem.W.tabIn K x = some (tcOf K x, tpOf K x))
    (TB : ∀ p ∈ tabC K xs, LamX.TabB base mg p.1 p.2) (a : PySem.W.nsIn K mainGlobals x = some (some (.ref f))) (l : K.lookup f = some ⟨oc, od, .func fd, sl⟩) : LamOk base mg (tabT K xs) fd (lamQ x) :=
  ⟨tcOf K x, tpOf K x, tabIn_code a l (t x hx), TB (tcOf K x, tpOf K x) (List.mem_map.mpr ⟨x, hx, rfl⟩), List.mem_map.mpr ⟨x, hx, rfl⟩, uniq_keys nd (List.mem_map.mpr ⟨x, hx, rfl⟩)⟩
end FL
namespace FL
open PySem PySem.Spec PyProof.Rows L2
def gTupRg : Sl → Hs → Option PyData := fun s _ => match s with
  | .val (.int n) => if -(2 ^ 62) ≤ n ∧ n ≤ 16777216 then some (.tuple (upTo 0 n.toNat)) else none
  | _ => none
end FL
namespace FL
open PySem PySem.Spec PyProof.Rows L2
def Nx (r : Fl) (P : En → Hs → Prop) : Prop := ∃ e h, r = .next e h ∧ P e h
theorem Nx.of {r : Fl} {e : En} {h : Hs} {P : En → Hs → Prop} (q : r = .next e h) (p : P e h) : Nx r P := ⟨e, h, q, p⟩
theorem Nx.mono {r : Fl} {P Q : En → Hs → Prop} (x : Nx r P) (i : ∀ e h, P e h → Q e h) : Nx r Q := let ⟨e, h, q, p⟩ := x; ⟨e, h, q, i e h p⟩
theorem Nx.seq {p q : Sv} {env : En} {h : Hs} {A B : En → Hs → Prop} (x : Nx (p env h) A) (y : ∀ e h, A e h → Nx (q e h) B) : Nx (sSeq p q env h) B := by
  obtain ⟨e, h1, q1, a⟩ := x
  rw [v_seq, q1, v_seqN]
  exact y e h1 a
theorem Nx.loop {tg : Tg} {p : Sv} {n : Nat} {I : En → Hs → Prop} : ∀ {ds : List PyData}, (∀ d ∈ ds, ∀ env h, I env h → ∃ e1, tg.put d env = some e1 ∧ Nx (p e1 h) fun e h => I (cutE n e) (h.take n)) → ∀ {env : En} {h : Hs}, I env h → Nx (loopF tg p n ds env h) I
  | [], _, env, h, i => ⟨env, h, rfl, i⟩
  | d :: ds, st, env, h, i => by
    obtain ⟨e1, q1, e, h1, q2, j⟩ := st d List.mem_cons_self env h i
    unfold loopF
    rw [q1]
    dsimp only
    rw [q2]
    exact Nx.loop (fun d m => st d (List.mem_cons_of_mem _ m)) j
/-- .. by what is left -/
theorem Nx.loopR {tg : Tg} {p : Sv} {n : Nat} {I : List PyData → En → Hs → Prop} : ∀ {ds : List PyData}, (∀ d rest env h, I (d :: rest) env h → ∃ e1, tg.put d env = some e1 ∧ Nx (p e1 h) fun e h => I rest (cutE n e) (h.take n)) → ∀ {env : En} {h : Hs}, I ds env h → Nx (loopF tg p n ds env h) (I [])
  | [], _, env, h, i => ⟨env, h, rfl, i⟩
  | d :: ds, st, env, h, i => by
    obtain ⟨e1, q1, e, h1, q2, j⟩ := st d ds env h i
    unfold loopF
    rw [q1]
    dsimp only
    rw [q2]
    exact Nx.loopR st j
theorem Nx.forR {src : En → Hs → Rz (List PyData)} {tg : Tg} {p : Sv} {ds : List PyData} {env : En} {h h1 : Hs} {I : List PyData → En → Hs → Prop} (q : src env h = .ok ds h1) (i : I ds env h1)
    (st : ∀ d rest env h, I (d :: rest) env h → ∃ e1, tg.put d env = some e1 ∧ Nx (p e1 h) fun e h => I rest (cutE h1.length e) (h.take h1.length)) : Nx (sFor src tg p env h) (I []) := by
  rw [v_for, q, v_fl]
  exact Nx.loopR st i
theorem Nx.for_ {src : En → Hs → Rz (List PyData)} {tg : Tg} {p : Sv} {ds : List PyData} {env : En} {h h1 : Hs} {I : En → Hs → Prop} (q : src env h = .ok ds h1) (i : I env h1)
    (st : ∀ d ∈ ds, ∀ env h, I env h → ∃ e1, tg.put d env = some e1 ∧ Nx (p e1 h) fun e h => I (cutE h1.length e) (h.take h1.length)) : Nx (sFor src tg p env h) I := by
  rw [v_for, q, v_fl]
  exact Nx.loop st i
theorem Nx.seqSet {i : Nat} {f : Ev} {q : Sv} {env : En} {h h1 : Hs} {s : Sl} {P : En → Hs → Prop} (e : f env h = .ok s h1) (y : Nx (q (env.set i (some s)) h1) P) : Nx (sSeq (sSet i f) q env h) P := by
  rw [v_seq, v_set, e, v_fl, v_seqN]
  exact y
theorem Nx.seqEq {p q : Sv} {env e1 : En} {h h1 : Hs} {P : En → Hs → Prop} (e : p env h = .next e1 h1) (y : Nx (q e1 h1) P) : Nx (sSeq p q env h) P := by
  rw [v_seq, e, v_seqN]
  exact y
structure Rk (w k : Nat) (d : PyData) : Prop where
  lay : d.canLay0 = true
  dep : d.depth ≤ k
  sh : d.showable = true
  len : d.shown.length ≤ w
theorem Rk.mono {w w' k k' : Nat} {d : PyData} (r : Rk w k d) (h1 : w ≤ w') (h2 : k ≤ k') : Rk w' k' d := ⟨r.lay, Nat.le_trans r.dep h2, r.sh, Nat.le_trans r.len h1⟩
theorem Rk.none : Rk 4 0 .none := ⟨by rfl, by simp [PyData.depth], by rfl, by decide⟩
theorem Rk.bool {b : Bool} : Rk 5 0 (.bool b) := ⟨by rfl, by simp [PyData.depth], by rfl, by cases b <;> decide⟩
theorem Rk.int {i : Int} (h : i.natAbs < 2 ^ 1920) : Rk 1921 0 (.int i) := by
  have q : i.natAbs.log2 < 1920 := by
    by_cases z : i.natAbs = 0
    · rw [z]; decide
    · exact (Nat.log2_lt z).mpr h
  refine ⟨by rfl, by simp [PyData.depth], by simp [PyData.showable, q], ?_⟩
  have := int_text_length_le (by decide) q
  have e : (PyData.shown (.int i)).length = (toString i).length := by
    show (Str.ofString (toString i)).length = _
    exact PySem.ofString_length _
  rw [e]; exact this
theorem Rk.small {i : Int} (h1 : -9223372036854775808 ≤ i) (h2 : i < 9223372036854775808) : Rk 1921 0 (.int i) := Rk.int (Nat.lt_of_lt_of_le (show i.natAbs < 2 ^ 64 by omega) (Nat.pow_le_pow_right (by decide) (by decide)))
theorem lay_all {ds : List PyData} {w k : Nat} (h : ∀ d ∈ ds, Rk w k d) : PyData.canLayAll0 ds = true ∧ PyData.depthAll ds ≤ k ∧ PyData.showableAll ds = true ∧ ((PyData.shownAll ds).map (·.length)).sum ≤ ds.length * w ∧ (PyData.shownAll ds).length = ds.length := by
  induction ds with
  | nil => simp [PyData.canLayAll0, PyData.depthAll, PyData.showableAll, PyData.shownAll]
  | cons d ds ih =>
    obtain ⟨a, b, c, e, f⟩ := ih fun x m => h x (List.mem_cons_of_mem _ m)
    obtain ⟨h1, h2, h3, h4⟩ := h d List.mem_cons_self
    refine ⟨by simp [PyData.canLayAll0, h1, a], by simp [PyData.depthAll]; omega, by simp [PyData.showableAll, h3, c], ?_, by simp [PyData.shownAll, f]⟩
    simp only [PyData.shownAll, List.map_cons, List.sum_cons, List.length_cons, Nat.add_mul, Nat.one_mul]
    omega
theorem Rk.tuple {w k : Nat} {ds : List PyData} (h : ∀ d ∈ ds, Rk w k d) : Rk (ds.length * (w + 2) + 3) (k + 1) (.tuple ds) := by
  obtain ⟨a, b, c, e, f⟩ := lay_all h
  refine ⟨by simpa [PyData.canLay0] using a, by simp [PyData.depth]; omega, by simpa [PyData.showable] using c, ?_⟩
  have := tupleText_len_le (PyData.shownAll ds)
  simp only [PyData.shown, Nat.mul_add]
  omega
theorem Rk.list {w k : Nat} {ds : List PyData} (h : ∀ d ∈ ds, Rk w k d) : Rk (ds.length * (w + 2) + 3) (k + 1) (.list ds) := by
  obtain ⟨a, b, c, e, f⟩ := lay_all h
  refine ⟨by simpa [PyData.canLay0] using a, by simp [PyData.depth]; omega, by simpa [PyData.showable] using c, ?_⟩
  have := listText_len_le (PyData.shownAll ds)
  simp only [PyData.shown, Nat.mul_add]
  omega
theorem Rk.shp {w k : Nat} {d : PyData} (r : Rk w k d) (hk : k ≤ 64) : shp d = true := by
  unfold FL.shp SeqAt.shaped
  rw [r.lay, decide_eq_true (Nat.le_trans r.dep hk)]
  rfl
theorem v_repr {w k : Nat} {d : PyData} {s : Sl} {h : Hs} (e : dat s h = some d) (r : Rk w k d) (hk : k ≤ 64) (hw : w ≤ 16777216) : gRepr [s] h = some (.str d.shown) := by
  show (match dat s h with | some d => _ | none => none) = _
  rw [e]
  dsimp only
  rw [r.shp hk, r.sh, decide_eq_true (Nat.le_trans r.len hw)]
  rfl
theorem eqv_refl_str {x : Str} : PyData.eqv (.str x) (.str x) = true := by simp [PyData.eqv]
end FL
namespace FL
open PySem PySem.Spec PyProof.Rows L2
/-- a road, a net -/
structure Road where
  one : Nat
  other : Nat
  cost : Nat
  time : Nat
def Road.d (r : Road) : PyData := .tuple [.int r.one, .int r.other, .int r.cost, .int r.time]
def netD (n : Nat) (rs : List Road) : PyData := .tuple [.int n, .tuple (rs.map Road.d)]
structure Road.Ok (n : Nat) (r : Road) : Prop where
  one : r.one < n
  other : r.other < n
  ne : r.one ≠ r.other
  c1 : 1 ≤ r.cost
  c2 : r.cost ≤ 99
  t : r.time ≤ 99
structure NetOk (n : Nat) (rs : List Road) : Prop where
  n1 : 1 ≤ n
  n2 : n ≤ 10
  len : rs.length ≤ 30
  all : ∀ r ∈ rs, r.Ok n
theorem cut_to {ds : List PyData} {k : Nat} : cutD ds none (some (k : Int)) = ds.take k := by
  unfold cutD
  rw [HT.sIx_nat, HT.sIx_none, List.drop_zero, Nat.sub_zero]
  by_cases q : k ≤ ds.length
  · rw [Nat.min_eq_left q]
  · rw [Nat.min_eq_right (by omega), List.take_of_length_le (Nat.le_refl _), List.take_of_length_le (by omega)]
theorem cut_to2 {ds : List PyData} : cutD ds none (some 2) = ds.take 2 := cut_to (k := 2)
@[simp] theorem putAt_ {n : Nat} {i : Int} {d : PyData} {h : Hs} : putAt (.loc n) (.val (.int i)) (.val d) h = match h[n]? with
    | some (.lst ds) => (match ixN ds.length i with
      | some j => some (h.set n (.lst (ds.set j d)))
      | none => none)
    | _ => none := id rfl
theorem ixN_nat {n k : Nat} (h : k < n) : ixN n (k : Int) = some k := by
  unfold ixN
  rw [if_pos (Int.natCast_nonneg k), if_pos (by omega)]
  rfl
@[simp] theorem v_outR {k : Nat} {ds : List PyData} {h : Hs} (hn : noLs ds = true) (e : h[k]? = some (.lst ds)) {fr : Bool} : outD fr k (.loc k) h = .ok (.list ds) (h.take k) := by
  unfold outD
  simp [e, hn]
@[simp] theorem v_mt {m : GM} {f : Ev} {a : Av} {env : En} {h : Hs} : eMt m f a env h = (f env h).bind fun s h => if (litems s h).isSome = true then (a env h).bind fun ss h => match m s ss h with
  | some (d, h') => .ok (.val d) h'
  | none => .bad else .bad := id rfl
@[simp] theorem v_app {n : Nat} {d : PyData} {h : Hs} : mAppend (.loc n) [.val d] h = match h[n]? with
    | some (.lst ds) => if ds.length < 16777216 then some (.none, h.set n (.lst (ds ++ [d]))) else none
    | _ => none := id rfl
@[simp] theorem v_augIx {g : G2} {fo fi fe : Ev} {env : En} {h : Hs} : sAugIx g fo fi fe env h = (fo env h).fl env fun s h => (fi env h).fl env fun t h => match lix s t h with
  | some x => (fe env h).fl env fun u h => match g (.val x) u h with
    | some d => match putAt s t (.val d) h with
      | some h' => .next env h'
      | none => .bad
    | none => .bad
  | none => .bad := id rfl
structure Dr where
  a : Nat
  b : Nat
  hb : b < 2147483647
def Dr.o (s : Dr) : Ob := .lst [.int s.a, .int s.b]
def Dr.b1 (s : Dr) : Nat := (s.b * 48271 + 29) % 2147483647
def Dr.x1 (s : Dr) : Nat := (s.b1 * s.b1 + 39373 * s.b1 + 7) % 2147483629
def Dr.x2 (s : Dr) : Nat := (s.x1 * s.x1 + 16807 * s.x1) % 2147483587
def Dr.tk (s : Dr) (far : Int) : Int := if 0 < s.a then s.a % far else s.x2 / 8 % far
def Dr.nx (s : Dr) (far : Int) : Dr := if 0 < s.a then ⟨(s.a / far).toNat, s.b, s.hb⟩ else ⟨0, s.b1, Nat.mod_lt _ (by decide)⟩
@[simp] theorem tk_nn {s : Dr} {far : Int} (h : 0 < far) : 0 ≤ s.tk far := by
  unfold Dr.tk
  split <;> exact Int.emod_nonneg _ (by omega)
@[simp] theorem tk_lt {s : Dr} {far : Int} (h : 0 < far) : s.tk far < far := by
  unfold Dr.tk
  split <;> exact Int.emod_lt_of_pos _ h
@[simp] theorem v_put {fo fi fe : Ev} {env : En} {h : Hs} : sPut fo fi fe env h = (fe env h).fl env fun u h => (fo env h).fl env fun s h => (fi env h).fl env fun t h => match putAt s t u h with
  | some h' => .next env h'
  | none => .bad := id rfl
@[simp] theorem ix0 {n : Nat} : ixN (n + 1) 0 = some 0 := ixN_nat (k := 0) (by omega)
@[simp] theorem ix1 {n : Nat} : ixN (n + 2) 1 = some 1 := ixN_nat (k := 1) (by omega)
theorem pick2 {a b i : Int} (h1 : 0 ≤ i) (h2 : i < 2) : atI [PyData.int a, .int b] i = some (.int (if i = 0 then a else b)) := by
  rcases (by omega : i = 0 ∨ i = 1) with rfl | rfl <;> rfl
theorem pick3 {a b c i : Int} (h1 : 0 ≤ i) (h2 : i < 3) : atI [PyData.int a, .int b, .int c] i = some (.int (if i = 0 then a else if i = 1 then b else c)) := by
  rcases (by omega : i = 0 ∨ i = 1 ∨ i = 2) with rfl | rfl | rfl <;> rfl
@[simp] theorem pick2t {a b : Int} {s : Dr} : atI [PyData.int a, .int b] (s.tk 2) = some (.int (if s.tk 2 = 0 then a else b)) := pick2 (tk_nn (by decide)) (tk_lt (by decide))
@[simp] theorem pick3t {a b c : Int} {s : Dr} : atI [PyData.int a, .int b, .int c] (s.tk 3) = some (.int (if s.tk 3 = 0 then a else if s.tk 3 = 1 then b else c)) := pick3 (tk_nn (by decide)) (tk_lt (by decide))
theorem line_s {n : Nat} {z : PyData} (hn : n ≤ 4) : line? n z = some z := v_line (by omega)
theorem mod_wrap {a y n : Int} (h1 : 0 ≤ a) (h2 : a < n) (h3 : 1 ≤ y) (h4 : y < n) : 0 ≤ (a + y) % n ∧ (a + y) % n < n ∧ a ≠ (a + y) % n := by
  have h5 : 0 < n := by omega
  refine ⟨Int.emod_nonneg _ (by omega), Int.emod_lt_of_pos _ h5, ?_⟩
  by_cases q : a + y < n
  · rw [Int.emod_eq_of_lt (by omega) q]; omega
  · have e : (a + y) % n = (a + y - n) % n := by rw [Int.sub_emod_right]
    rw [e, Int.emod_eq_of_lt (by omega) (by omega)]; omega
theorem call_e {m : Fm} {fr : Bool} {io : List Bool} {ss : List Sl} {ds : List PyData} {x : Exn} {h : Hs} (hv : vals? ss = some ds) (hi : io = ss.map fun _ => false) (e : m ds [] = .err x []) : callF m io fr ss h = .err x h := by
  have w : ∀ (ss : List Sl) (ds : List PyData), vals? ss = some ds → splitA (ss.map fun _ => false) ss h = some (ds, [], [], []) := by
    intro ss
    induction ss with
    | nil => intro ds q; cases q; rfl
    | cons s r ih =>
      intro ds q
      cases s with
      | loc n => cases q
      | inn n i => cases q
      | exn y => cases q
      | pr _ _ => cases q
      | val d =>
        have q' : (vals? r).map (d :: ·) = some ds := q
        cases q2 : vals? r with
        | none => rw [q2] at q'; cases q'
        | some rs =>
          rw [q2] at q'
          cases q'
          simp only [List.map_cons, splitA, ih rs q2, dat0]
  subst hi
  unfold callF
  rw [w ss ds hv]
  dsimp only
  rw [if_pos ⟨rfl, Or.inl rfl⟩, e]
  dsimp only
  rw [if_pos (Or.inl rfl)]
  rfl
section
variable {m : Fm} {fr : Bool} {x : Exn} {h : Hs} {x1 x2 x3 x4 x5 x6 z : PyData}
@[simp] theorem call1e (e : m [x1] [] = .err x []) : callF m [false] fr [.val x1] h = .err x h := call_e rfl rfl e
@[simp] theorem call2e (e : m [x1, x2] [] = .err x []) : callF m [false, false] fr [.val x1, .val x2] h = .err x h := call_e rfl rfl e
@[simp] theorem call3e (e : m [x1, x2, x3] [] = .err x []) : callF m [false, false, false] fr [.val x1, .val x2, .val x3] h = .err x h := call_e rfl rfl e
@[simp] theorem call4e (e : m [x1, x2, x3, x4] [] = .err x []) : callF m [false, false, false, false] fr [.val x1, .val x2, .val x3, .val x4] h = .err x h := call_e rfl rfl e
@[simp] theorem call5e (e : m [x1, x2, x3, x4, x5] [] = .err x []) : callF m [false, false, false, false, false] fr [.val x1, .val x2, .val x3, .val x4, .val x5] h = .err x h := call_e rfl rfl e
@[simp] theorem call6e (e : m [x1, x2, x3, x4, x5, x6] [] = .err x []) : callF m [false, false, false, false, false, false] fr [.val x1, .val x2, .val x3, .val x4, .val x5, .val x6] h = .err x h := call_e rfl rfl e
@[simp] theorem call5 (e : m [x1, x2, x3, x4, x5] [] = .ok z []) : callF m [false, false, false, false, false] fr [.val x1, .val x2, .val x3, .val x4, .val x5] h = .ok (.val z) h := call_d rfl rfl e
@[simp] theorem call6 (e : m [x1, x2, x3, x4, x5, x6] [] = .ok z []) : callF m [false, false, false, false, false, false] fr [.val x1, .val x2, .val x3, .val x4, .val x5, .val x6] h = .ok (.val z) h := call_d rfl rfl e
end
def said? (tup : Bool) (R : List Str) (mw : Exn → Option PyData) (r : Rz Sl) : Rz Sl := match r with
  | .ok (.val d) h' => .ok (.val (.tuple [.str "told", d])) h'
  | .err x h' => if R.contains x.cls && x.fs.isEmpty then (match mw x with
    | some d => .ok (.val (if tup then .tuple [d] else d)) h'
    | none => .bad) else .bad
  | _ => .bad
section
variable {tup : Bool} {R : List Str} {mw : Exn → Option PyData} {fe : Ev} {env : En} {h : Hs} {d : PyData} {x : Str}
@[simp] theorem v_said2 : eSaid tup R mw fe env h = said? tup R mw (fe env h) := by unfold eSaid said?; rfl
@[simp] theorem said_ok : said? tup R mw (.ok (.val d) h) = .ok (.val (.tuple [.str "told", d])) h := id rfl
theorem said_err (h1 : R.contains x = true) (em : mw ⟨x, []⟩ = some d) : said? tup R mw (.err ⟨x, []⟩ h) = .ok (.val (if tup then .tuple [d] else d)) h := by
  unfold said?
  dsimp only
  rw [h1, em]
  rfl
end
theorem v_neS {x y : Str} {h : Hs} : gNe (.val (.str x)) (.val (.str y)) h = some (.bool (!decide (x = y))) := by
  show some (PyData.bool (!PyData.eqv (.str x) (.str y))) = _
  by_cases q : x = y <;> simp [PyData.eqv, q]
@[simp] theorem v_neSS {x : Str} {h : Hs} : gNe (.val (.str x)) (.val (.str x)) h = some (.bool false) := by
  rw [v_neS, decide_eq_true rfl]; rfl
@[simp] theorem v_isaD {c : String} {ps : List (PyData × PyData)} {h : Hs} : gIsa c (.val (.dict ps)) h = some (.bool (isaN c "dict")) := id rfl
@[simp] theorem v_isb1 : isaN "int" "dict" = false := by decide
@[simp] theorem v_isb2 : isaN "tuple" "dict" = false := by decide
@[simp] theorem v_isb3 : isaN "list" "dict" = false := by decide
@[simp] theorem v_isb4 : isaN "str" "dict" = false := by decide
@[simp] theorem v_isb5 : isaN "str" "int" = false := by decide
@[simp] theorem v_isb6 : isaN "str" "bool" = false := by decide
@[simp] theorem v_isb7 : isaN "str" "list" = false := by decide
@[simp] theorem v_isb8 : isaN "str" "tuple" = false := by decide
@[simp] theorem v_isb9 : isaN "str" "NoneType" = false := by decide
@[simp] theorem v_isc1 : isaN "list" "int" = false := by decide
@[simp] theorem v_isc2 : isaN "list" "bool" = false := by decide
@[simp] theorem v_isc3 : isaN "list" "str" = false := by decide
@[simp] theorem v_isc4 : isaN "list" "NoneType" = false := by decide
/-- a whole number from one to another one -/
def amB (d : PyData) (a b : Int) : Bool := match d with
  | .int i => decide (a ≤ i) && decide (i ≤ b)
  | _ => false
@[simp] theorem amB_int {i a b : Int} : amB (.int i) a b = (decide (a ≤ i) && decide (i ≤ b)) := id rfl
@[simp] theorem amB_none {a b : Int} : amB .none a b = false := id rfl
@[simp] theorem amB_bool {x : Bool} {a b : Int} : amB (.bool x) a b = false := id rfl
@[simp] theorem amB_str {x : Str} {a b : Int} : amB (.str x) a b = false := id rfl
@[simp] theorem amB_list {x : List PyData} {a b : Int} : amB (.list x) a b = false := id rfl
@[simp] theorem amB_tuple {x : List PyData} {a b : Int} : amB (.tuple x) a b = false := id rfl
@[simp] theorem amB_dict {x : List (PyData × PyData)} {a b : Int} : amB (.dict x) a b = false := id rfl
def natsD (ws : List Nat) : List PyData := ws.map fun w => .int (w : Nat)
theorem upTo_nats {m : Nat} : upTo 0 m = natsD (List.range m) := by
  unfold upTo natsD
  refine List.map_congr_left fun k _ => ?_
  rw [Int.zero_add]
@[simp] theorem v_tupRg {m : Nat} {h : Hs} (hm : m ≤ 16777216) : gTupRg (.val (.int (m : Nat))) h = some (.tuple (natsD (List.range m))) := by
  show (if -(2 ^ 62) ≤ (m : Int) ∧ (m : Int) ≤ 16777216 then some (PyData.tuple (upTo 0 (m : Int).toNat)) else none) = _
  rw [if_pos ⟨by omega, by omega⟩, Int.toNat_natCast, upTo_nats]
@[simp] theorem v_negI {i : Int} {h : Hs} : gNeg (.val (.int i)) h = some (.int (-i)) := id rfl
theorem v_pow10 {k : Nat} {h : Hs} (hk : k ≤ 1000) : gI fPow (.val (.int 10)) (.val (.int (k : Nat))) h = some (.int (10 ^ k)) := by
  show fPow 10 k = _
  unfold fPow
  rw [if_pos ⟨by omega, by omega, by decide⟩, Int.toNat_natCast]
mutual
theorem eqv_self : ∀ d : PyData, d.canLay0 = true → PyData.eqv d d = true
  | .none, _ => by simp [PyData.eqv]
  | .bool _, _ => by simp [PyData.eqv]
  | .int _, _ => by simp [PyData.eqv]
  | .str _, _ => by simp [PyData.eqv]
  | .list xs, h => by simpa [PyData.eqv] using eqvAll_self xs (by simpa [PyData.canLay0] using h)
  | .tuple xs, h => by simpa [PyData.eqv] using eqvAll_self xs (by simpa [PyData.canLay0] using h)
  | .dict _, h => by simp [PyData.canLay0] at h
theorem eqvAll_self : ∀ xs : List PyData, PyData.canLayAll0 xs = true → PyData.eqvAll xs xs = true
  | [], _ => by simp [PyData.eqvAll]
  | x :: xs, h => by
    have h' : x.canLay0 = true ∧ PyData.canLayAll0 xs = true := by simpa [PyData.canLayAll0] using h
    simp [PyData.eqvAll, eqv_self x h'.1, eqvAll_self xs h'.2]
end
theorem v_ne_self {w k : Nat} {d : PyData} {h : Hs} (r : Rk w k d) (hk : k ≤ 64) : gNe (.val d) (.val d) h = some (.bool false) := by
  show (if eqOk d d then some (PyData.bool (!PyData.eqv d d)) else none) = _
  have e : eqOk d d = true := by
    unfold eqOk
    split
    · rfl
    · rw [r.shp hk]; rfl
  rw [e, eqv_self d r.lay]
  rfl
theorem rk_word {x : Str} (h : (PyData.str x).canLay0 = true) (hl : (PyData.str x).shown.length ≤ 1000) : Rk 1005 1 (.tuple [.str x]) := by
  refine (Rk.tuple (w := 1000) (k := 0) (ds := [.str x]) fun d m => ?_).mono (by simp) (Nat.le_refl _)
  rw [List.mem_singleton.mp m]
  exact ⟨h, by simp [PyData.depth], by simp [PyData.showable], hl⟩
theorem cut_from {ds : List PyData} {k : Nat} : cutD ds (some (k : Int)) none = ds.drop k := by
  unfold cutD
  rw [HT.sIx_nat, HT.sIx_none]
  by_cases q : k ≤ ds.length
  · rw [Nat.min_eq_left q, List.take_of_length_le (by rw [List.length_drop]; omega)]
  · rw [Nat.min_eq_right (by omega), List.drop_of_length_le (Nat.le_refl _), List.drop_of_length_le (by omega)]
    simp
@[simp] theorem v_srcEnum {f : Av} {env : En} {h : Hs} : srcEnum f env h = (f env h).bind fun ss h => match ss with
  | [.val (.tuple ds)] => .ok (enumD 0 ds) h
  | [.val (.list ds)] => .ok (enumD 0 ds) h
  | _ => .bad := id rfl
theorem pickL (L : List PyData) (s : Dr) {k : Int} (hk : (L.length : Int) = k) (h0 : 0 < k) : ∃ d, d ∈ L ∧ atI L (s.tk k) = some d := by
  have t1 := tk_nn (s := s) h0
  have t2 := tk_lt (s := s) h0
  obtain ⟨i, hi⟩ : ∃ i : Nat, s.tk k = i := ⟨(s.tk k).toNat, by omega⟩
  have hi2 : i < L.length := by omega
  exact ⟨L[i], List.getElem_mem hi2, by rw [hi, v_atC, List.getElem?_eq_getElem hi2]⟩
end FL
namespace FL
open PySem PySem.Spec PyProof.Rows L2
def frzS (n : Nat) (d : PyData) (s : Slot) : Slot := match s with
  | some (.loc k) => if k = n then some (.val d) else some (.loc k)
  | some (.inn k i) => if k = n then none else some (.inn k i)
  | some (.pr _ _) => none
  | s => s
def obD (o : Option Ob) : Option PyData := match o with
  | some (.lst ds) => some (.list ds)
  | some (.lls dss) => some (.list (dss.map .list))
  | _ => none
def frz? (k i : Nat) (env : En) (h : Hs) : Option (En × Hs) := match env[i]? with
  | some (some (.loc n)) => if k ≤ n then (obD h[n]?).map fun d => (env.map (frzS n d), h.set n .gone) else none
  | some (some (.val _)) => some (env, h)
  | _ => none
/-- the object at a slot becomes data, then the rest -/
def sFrz (k i : Nat) (g : Sv) : Sv := fun env h => match frz? k i env h with
  | some (e, h) => g e h
  | none => .bad
theorem flat_set {ρ : Fps} {n : Nat} {a : Addr} (m : a ∈ (ρ.set n []).flatten) : a ∈ ρ.flatten := by
  obtain ⟨fp, h1, h2⟩ := List.mem_flatten.mp m
  rcases List.mem_or_eq_of_mem_set h1 with z | z
  · exact List.mem_flatten.mpr ⟨fp, z, h2⟩
  · subst z; cases h2
theorem flat_set_nd : ∀ {ρ : Fps} {n : Nat}, ρ.flatten.Nodup → (ρ.set n []).flatten.Nodup
  | [], _, h => h
  | fp :: ρ, 0, h => by
    rw [List.flatten_cons, List.nodup_append] at h
    simpa using h.2.1
  | fp :: ρ, n + 1, h => by
    rw [List.flatten_cons, List.nodup_append] at h
    rw [List.set_cons_succ, List.flatten_cons, List.nodup_append]
    exact ⟨h.1, flat_set_nd h.2.1, fun x hx y hy => h.2.2 x hx y (flat_set hy)⟩
section
variable {K : PySem.W.Frag} {C : Fc} {ρ : Fps} {h : Hs} {H : Hp}
theorem Mo.gone {n : Nat} {b : Addr} (m : Mo C (ρ.set n []) b) : Mo C ρ b := m.imp flat_set id
theorem Mo.out {n : Nat} {fp : List Addr} {a : Addr} (S : SimH K C ρ h H) (e : ρ[n]? = some fp) (ma : a ∈ fp) : ¬ Mo C (ρ.set n []) a := fun m => by
  rcases m with m | m
  · obtain ⟨fq, h1, h2⟩ := List.mem_flatten.mp m
    obtain ⟨k, hk, ek⟩ := List.getElem_of_mem h1
    have e2 : (ρ.set n [])[k]? = some fq := by rw [← ek]; exact List.getElem?_eq_getElem hk
    by_cases q : n = k
    · subst q
      rw [List.getElem?_set, if_pos rfl] at e2
      split at e2
      · cases e2; cases h2
      · cases e2
    · rw [List.getElem?_set_ne q] at e2
      exact q (nodup_apart S.nd e e2 ma h2)
  · exact (S.bar a m).1 (flat_at e ma)
theorem SimH.gone (S : SimH K C ρ h H) {n : Nat} (hn : C.W.length ≤ n) : SimH K C (ρ.set n []) (h.set n .gone) H where
  len := by rw [List.length_set, List.length_set]; exact S.len
  nd := flat_set_nd S.nd
  trk := fun a m => S.trk a (flat_set m)
  obj := fun k fp o e1 e2 => by
    by_cases q : n = k
    · subst q
      rw [List.getElem?_set, if_pos rfl] at e1 e2
      split at e1
      · cases e1
        split at e2
        · cases e2; exact rfl
        · cases e2
      · cases e1
    · rw [List.getElem?_set_ne q] at e1 e2
      exact ObOk.fewer (fun _ => Mo.gone) (S.obj k fp o e1 e2)
  frK := S.frK
  own := fun a m => S.own a (flat_set m)
  bar := fun b m => ⟨fun z => (S.bar b m).1 (flat_set z), (S.bar b m).2⟩
  wtr := S.wtr
  pre := fun k fp e => by
    have e' := S.pre k fp e
    have := (List.getElem?_eq_some_iff.mp e).1
    rw [List.getElem?_set_ne (by omega)]
    exact e'
  tab := S.tab
  bnt := S.bnt
/-- what stood there, as data -/
theorem obD_rel (S : SimH K C ρ h H) {n : Nat} {fp : List Addr} {a : Addr} {d : PyData} (e1 : ρ[n]? = some fp) (e2 : fp.head? = some a) (e3 : obD h[n]? = some d) : Rp K H (Mo C (ρ.set n [])) (.ref a) d := by
  unfold obD at e3
  split at e3
  · rename_i ds e4
    cases e3
    obtain ⟨e1', vs, q, ra⟩ := S.lst e1 e2 e4
    exact .lst (.inl ⟨.inl q, Mo.out S e1' (by simp)⟩) (ra.fewer fun _ => Mo.gone)
  · rename_i dss e4
    cases e3
    obtain ⟨b, bs, rfl, q, hl, w⟩ := S.obj n fp _ e1 e4
    have eb : b = a := by simpa using e2
    subst eb
    refine .lst (.inl ⟨.inl q, Mo.out S e1 (by simp)⟩) ?_
    have key : ∀ (bs : List Addr) (dss : List (List PyData)), bs.length = dss.length → (∀ c ∈ bs, ¬ Mo C (ρ.set n []) c) → (∀ (i : Nat) (b : Addr) (ds : List PyData), bs[i]? = some b → dss[i]? = some ds → ∃ vs, H b = some (.lst vs) ∧ RpAll K H (Mo C ρ) vs ds) → RpAll K H (Mo C (ρ.set n [])) (bs.map V.ref) (dss.map .list) := by
      intro bs
      induction bs with
      | nil =>
        intro dss hl _ _
        cases dss with
        | nil => exact .nil
        | cons _ _ => cases hl
      | cons b bs ih =>
        intro dss hl hn hw
        cases dss with
        | nil => cases hl
        | cons ds dss =>
          obtain ⟨vs, q1, q2⟩ := hw 0 b ds rfl rfl
          exact .cons (.lst (.inl ⟨.inl q1, hn b (by simp)⟩) (q2.fewer fun _ => Mo.gone)) (ih dss (by simpa using hl) (fun c hc => hn c (List.mem_cons_of_mem _ hc)) fun i b ds h1 h2 => hw (i + 1) b ds (by simpa using h1) (by simpa using h2))
    exact key bs dss hl (fun c hc => Mo.out S e1 (List.mem_cons_of_mem _ hc)) w
  · cases e3
theorem frz_ok {k i : Nat} {env env' : En} {h' : Hs} {σ : St} (S : SimH K C ρ h H) (E : EnvOk K C ρ H env σ) (hW : C.W.length ≤ k) (e : frz? k i env h = some (env', h')) : ∃ ρ', Stp (Mo C ρ) H (Mo C ρ') H ∧ SimH K C ρ' h' H ∧ EnvOk K C ρ' H env' σ := by
  unfold frz? at e
  split at e
  · rename_i n en
    split at e
    · rename_i hk
      cases q : obD h[n]? with
      | none => rw [q] at e; cases e
      | some d =>
        rw [q] at e
        cases e
        obtain ⟨v, ev, fp, a, e1, e2, rfl⟩ := E.at_ i _ en
        refine ⟨ρ.set n [], ⟨keepE fun _ _ z _ => z, fun _ m => .inl (Mo.gone m)⟩, S.gone (Nat.le_trans hW hk), by rw [List.length_map]; exact E.len, fun j s ej => ?_⟩
        rw [List.getElem?_map] at ej
        cases qj : env[j]? with
        | none => rw [qj] at ej; cases ej
        | some sj =>
          rw [qj] at ej
          have ej' : frzS n d sj = some s := Option.some.inj ej
          cases sj with
          | none => cases ej'
          | some t =>
            obtain ⟨v, ev, rv⟩ := E.at_ j t qj
            refine ⟨v, ev, ?_⟩
            cases t with
            | val d' => cases ej'; exact Rp.fewer (fun _ => Mo.gone) rv
            | exn x => cases ej'; exact rv
            | pr _ _ => cases ej'
            | loc m =>
              have ej2 : (if m = n then some (Sl.val d) else some (.loc m)) = some s := ej'
              obtain ⟨fp2, a2, q1, q2, rfl⟩ := rv
              split at ej2
              · rename_i hm
                cases ej2
                subst hm
                rw [e1] at q1
                cases q1
                rw [e2] at q2
                cases q2
                exact obD_rel S e1 e2 q
              · rename_i hm
                cases ej2
                exact ⟨fp2, a2, by rw [List.getElem?_set_ne (fun z => hm z.symm)]; exact q1, q2, rfl⟩
            | inn m l =>
              have ej2 : (if m = n then none else some (Sl.inn m l)) = some s := ej'
              obtain ⟨fp2, a2, q1, q2, rfl⟩ := rv
              split at ej2
              · cases ej2
              · rename_i hm
                cases ej2
                exact ⟨fp2, a2, by rw [List.getElem?_set_ne (fun z => hm z.symm)]; exact q1, q2, rfl⟩
    · cases e
  · cases e
    exact ⟨ρ, Stp.refl _ _, S, E⟩
  · cases e
end
section
variable {X : Cx} {C : Fc} {Wx : WX} {rest : List Stmt} {st : Stmt} {g : Sv}
theorem rdS_frz {K : PySem.W.Frag} {mg : Str → Option Value} {k i : Nat} {D : Ends} {σ : St} {H : Hp} (hW : C.W.length ≤ k) (p : rdS K mg C Wx (sFrz k i g) D σ H) : rdS K mg C Wx g D σ H := by
  obtain ⟨ρ, env, h, S, E, P⟩ := p
  unfold sFrz at P
  cases q : frz? k i env h with
  | none => rw [q] at P; exact P.elim
  | some eh =>
    obtain ⟨e, h'⟩ := eh
    rw [q] at P
    obtain ⟨ρ', st, S', E'⟩ := frz_ok S E hW q
    exact ⟨ρ', e, h', S', E', PoS.stp (r := g e h') st P⟩
theorem fs_frz {k i : Nat} (hW : C.W.length ≤ k) (h : FS X C Wx st g) : FS X C Wx st (sFrz k i g) := PS.imp h fun D σ H p => rdS_frz hW p
def eListN (f : Av) : Ev := fun env h => (f env h).bind fun ss h => match ss with
  | [s] => match items s h with
    | some ds => .ok (.loc h.length) (h ++ [.lst ds])
    | none => .bad
  | _ => .bad
theorem RpAll.dropLast {K : PySem.W.Frag} {H : Hp} {M : Ms} {vs : List V} {ds : List PyData} (r : RpAll K H M vs ds) : RpAll K H M vs.dropLast ds.dropLast := by
  rw [List.dropLast_eq_take, List.dropLast_eq_take, r.length]
  exact r.take _
end
end FL
namespace FL
open PySem PySem.Spec PyProof.Rows L2
def innAt (s t : Sl) (h : Hs) : Option Sl := match s, t with
  | .loc n, .val (.int i) => match h[n]? with
    | some (.lls dss) => (ixN dss.length i).map fun j => .inn n j
    | _ => none
  | _, _ => none
def eIxI (f g : Ev) : Ev := fun env h => (f env h).bind fun s h => (g env h).bind fun t h => match innAt s t h with
  | some u => .ok u h
  | none => .bad
end FL
namespace FL
open PySem PySem.Spec PyProof.Rows L2
inductive Out (r : Fl) (N : En → Hs → Prop) (R : Sl → Hs → Prop) : Prop
  | nx (e : En) (h : Hs) (q : r = .next e h) (p : N e h) : Out r N R
  | rt (s : Sl) (h : Hs) (q : r = .ret s h) (p : R s h) : Out r N R
theorem Out.next {e : En} {h : Hs} {N : En → Hs → Prop} {R : Sl → Hs → Prop} {r : Fl} (q : r = .next e h) (p : N e h) : Out r N R := .nx e h q p
theorem Out.ret {s : Sl} {h : Hs} {N : En → Hs → Prop} {R : Sl → Hs → Prop} {r : Fl} (q : r = .ret s h) (p : R s h) : Out r N R := .rt s h q p
theorem Out.of_nx {r : Fl} {P : En → Hs → Prop} {R : Sl → Hs → Prop} (x : Nx r P) : Out r P R := by
  obtain ⟨e, h, q, p⟩ := x
  exact .nx e h q p
theorem Out.mono {r : Fl} {N N' : En → Hs → Prop} {R R' : Sl → Hs → Prop} (x : Out r N R) (i : ∀ e h, N e h → N' e h) (j : ∀ s h, R s h → R' s h) : Out r N' R' := by
  cases x with
  | nx e h q p => exact .nx e h q (i e h p)
  | rt s h q p => exact .rt s h q (j s h p)
theorem Out.seq {p q : Sv} {env : En} {h : Hs} {A B : En → Hs → Prop} {R : Sl → Hs → Prop} (x : Out (p env h) A R) (y : ∀ e h, A e h → Out (q e h) B R) : Out (sSeq p q env h) B R := by
  rw [v_seq]
  cases x with
  | nx e h1 z a => rw [z, v_seqN]; exact y e h1 a
  | rt s h1 z a => rw [z]; exact .rt s h1 rfl a
theorem Out.loopR {tg : Tg} {p : Sv} {n : Nat} {I : List PyData → En → Hs → Prop} {R : Sl → Hs → Prop} : ∀ {ds : List PyData}, (∀ d rest env h, I (d :: rest) env h → ∃ e1, tg.put d env = some e1 ∧ Out (p e1 h) (fun e h => I rest (cutE n e) (h.take n)) R) → ∀ {env : En} {h : Hs}, I ds env h → Out (loopF tg p n ds env h) (I []) R
  | [], _, env, h, i => .nx env h rfl i
  | d :: ds, st, env, h, i => by
    obtain ⟨e1, q1, x⟩ := st d ds env h i
    unfold loopF
    rw [q1]
    dsimp only
    cases x with
    | nx e h1 z a => rw [z]; exact Out.loopR st a
    | rt s h1 z a => rw [z]; exact .rt s h1 rfl a
theorem Out.forR {src : En → Hs → Rz (List PyData)} {tg : Tg} {p : Sv} {ds : List PyData} {env : En} {h h1 : Hs} {I : List PyData → En → Hs → Prop} {R : Sl → Hs → Prop} (q : src env h = .ok ds h1) (i : I ds env h1)
    (st : ∀ d rest env h, I (d :: rest) env h → ∃ e1, tg.put d env = some e1 ∧ Out (p e1 h) (fun e h => I rest (cutE h1.length e) (h.take h1.length)) R) : Out (sFor src tg p env h) (I []) R := by
  rw [v_for, q, v_fl]
  exact Out.loopR st i
section
variable {env : En} {h : Hs} {s t : Sl}
def par3? (i j l : Nat) (ss : List Sl) (env : En) (h : Hs) : Fl := match ss with
  | [s, t, u] => .next (((env.set i (some s)).set j (some t)).set l (some u)) h
  | _ => .bad
@[simp] theorem v_par3a {i j l : Nat} {u : Sl} : par3? i j l [s, t, u] env h = .next (((env.set i (some s)).set j (some t)).set l (some u)) h := id rfl
@[simp] theorem v_par3 {i j l : Nat} {a : Av} : sPar3 i j l a env h = (a env h).fl env fun ss h => par3? i j l ss env h := by unfold sPar3; congr
def listN? (ss : List Sl) (h : Hs) : Rz Sl := match ss with
  | [s] => match items s h with
    | some ds => .ok (.loc h.length) (h ++ [.lst ds])
    | none => .bad
  | _ => .bad
@[simp] theorem v_listN {a : Av} : eListN a env h = (a env h).bind fun ss h => listN? ss h := by unfold eListN; congr
end
theorem run_eq {fr : Bool} {io : List Bool} {nl : Nat} {p : Sv} {ds : List PyData} {os : Hs} {z : Rz PyData} (x : Out (p (mkEnv io ds 0 ++ List.replicate nl none) os) (fun _ h => Rz.ok .none (h.take os.length) = z) (fun s h => outD fr os.length s h = z)) : runFn fr io nl p ds os = z := by
  rw [v_run]
  cases x with
  | nx e h q p => rw [q]; exact p
  | rt s h q p => rw [q]; exact p
/-- a def that may end otherwise -/
theorem run_ex {fr : Bool} {io : List Bool} {nl : Nat} {p : Sv} {ds : List PyData} {os : Hs} {P : PyData → Hs → Prop} (x : Out (p (mkEnv io ds 0 ++ List.replicate nl none) os) (fun _ h => P .none (h.take os.length)) (fun s h => ∃ d h', outD fr os.length s h = .ok d h' ∧ P d h')) : ∃ d h', runFn fr io nl p ds os = .ok d h' ∧ P d h' := by
  rw [v_run]
  cases x with
  | nx e h q p => rw [q]; exact ⟨_, _, rfl, p⟩
  | rt s h q p => rw [q]; exact p
theorem Out.seqEq {p q : Sv} {env e1 : En} {h h1 : Hs} {N : En → Hs → Prop} {R : Sl → Hs → Prop} (e : p env h = .next e1 h1) (y : Out (q e1 h1) N R) : Out (sSeq p q env h) N R := by
  rw [v_seq, e, v_seqN]
  exact y
end FL
namespace FL
open PySem PySem.Spec PyProof.Rows L2
def compO (t : Tg) (tt : Tv) (fe : Ev) (env : En) (n : Nat) : Nat → Nat → List PyData → Hs → Rz (List PyData)
  | 0, _, _, _ => .bad
  | k + 1, i, acc, h => match obL h[n]? with
    | none => .bad
    | some ds => match ds[i]? with
      | none => .ok acc h
      | some d => match t.put d env with
        | none => .bad
        | some e1 => match tt e1 h with
          | .ok true h => match fe e1 h with
            | .ok (.val x) h => if acc.length < 16777216 then compO t tt fe env n k (i + 1) (acc ++ [x]) h else .bad
            | _ => .bad
          | .ok false h => compO t tt fe env n k (i + 1) acc h
          | _ => .bad
def compS (t : Tg) (tt : Tv) (fe : Ev) (env : En) (s : Sl) (h : Hs) : Rz (List PyData) := match s with
  | .loc n => compO t tt fe env n 16777217 0 [] h
  | _ => .bad
def eCompO (fi : Ev) (t : Tg) (vs : List Nat) (tt : Tv) (fe : Ev) : Ev := fun env h => (fi env h).bind fun s h => (compS t tt fe (wipeE env vs) s h).bind fun out h => .ok (.val (.list out)) h
section
variable {env : En} {h : Hs} {fi : Ev} {t : Tg} {vs : List Nat} {tt : Tv} {fe : Ev}
@[simp] theorem v_compOv : eCompO fi t vs tt fe env h = (fi env h).bind fun s h => (compS t tt fe (wipeE env vs) s h).bind fun out h => .ok (.val (.list out)) h := id rfl
end
end FL
namespace FL
open PySem PySem.Spec PyProof.Rows L2
def gMul : G2 := fun s t h => match s, t with
  | .val (.int i), .val (.int j) => fMul i j
  | .val (.tuple a), .val (.int k) => if a ≠ [] ∧ 2 ≤ k ∧ k ≤ 1000 ∧ a.length ≤ 1000 then some (.tuple (List.replicate k.toNat a).flatten) else none
  | _, _ => none
theorem RpAll.flat {K : PySem.W.Frag} {H : Hp} {M : Ms} {vs : List V} {ds : List PyData} (r : RpAll K H M vs ds) : ∀ k : Nat, RpAll K H M (List.replicate k vs).flatten (List.replicate k ds).flatten
  | 0 => .nil
  | k + 1 => by
    rw [List.replicate_succ, List.replicate_succ, List.flatten_cons, List.flatten_cons]
    exact RpAll.append r (RpAll.flat r k)
section
variable {X : Cx} {C : Fc}
theorem o_mulT : OpR X (binaryOp .Mult) (rd2 X.K C gMul) := OpR.imp ((o_mul (C := C)).or op_repT) fun x y H Q ⟨ρ, h, s, t, d, S, r1, r2, e, k⟩ => by
  unfold gMul at e
  split at e
  · exact .inl ⟨ρ, h, _, _, d, S, r1, r2, e, k⟩
  · rename_i a j
    split at e
    · rename_i hq
      cases e
      cases (show Rp X.K H (Mo C ρ) y (.int j) from r2)
      cases (show Rp X.K H (Mo C ρ) x (.tuple a) from r1) with
      | tup q1 a1 =>
        refine .inr ⟨_, j, _, rfl, rfl, q1.sq, fun z => ?_, hq.2.1, hq.2.2.1, by rw [a1.length]; exact hq.2.2.2, fun p hp => k _ _ (Ex.laid S hp) (S.laid hp) (Rp.newTup S hp (a1.flat _))⟩
        subst z
        exact hq.1 (List.eq_nil_of_length_eq_zero a1.length.symm)
    · cases e
  · cases e
mutual
def lfr : PyData → Bool
  | .list _ => false
  | .tuple ds => lfrs ds
  | _ => true
def lfrs : List PyData → Bool
  | [] => true
  | d :: ds => lfr d && lfrs ds
end
theorem dict_reads {ps : List (Int × Int)} : ∀ {es : List DictEntry} {vs : List (Key × Value)} {qs : List (Int × Int)} {h : Heap} {P : Program} {w : World}, Pairs (mixKind P w) es vs → KV (dcV qs) vs →
    ReadsAll h (es.map (·.key)) ((dcD qs).map (·.1)) [] ∧ ReadsAll h (es.map (·.val)) ((dcD qs).map (·.2)) []
  | [], _, qs, h, P, w, .nil, kv => by
    cases qs with
    | nil => exact ⟨.nil, .nil⟩
    | cons q qs => cases kv
  | e :: es, _, qs, h, P, w, .cons h1 h2 t, kv => by
    cases qs with
    | nil => cases kv
    | cons q qs =>
      cases kv with
      | cons hq tq =>
        obtain ⟨i1, i2⟩ := dict_reads (ps := ps) (h := h) t tq
        obtain ⟨hk, hv⟩ := hq
        have hk1 : keyIs (Sum.inl q.1) e.key = true := by rw [show (Sum.inl q.1 : Key) = _ from hk]; exact h1
        obtain ⟨t1, e1⟩ := hv
        refine ⟨?_, ?_⟩
        · rcases keyIs_shape hk1 with ⟨i, t', ei, ek⟩ | ⟨x, t', ei, ek⟩
          · cases ei
            have := ReadsAll.cons (Reads.int (h := h) q.1 t') i1
            show ReadsAll h (e.key :: es.map (·.key)) (.int q.1 :: (dcD qs).map (·.1)) []
            rw [ek]
            exact this
          · cases ei
        · have := ReadsAll.cons (Reads.int (h := h) q.2 t1) i2
          show ReadsAll h (e.val :: es.map (·.val)) (.int q.2 :: (dcD qs).map (·.2)) []
          rw [h2, e1]
          exact this
section
variable {pins : List (Addr × Obj)} {σ : St} {H : Hp} {s : Shared} {M : Ms}
mutual
theorem Rp.readsD (I : Inv X pins σ H s) : ∀ (d : PyData) (v : V) (u : Value), lfr d = true → d.showable = true → Rp X.K H M v d → RelV v u → ∃ as, Reads s.heap u d as ∧ sysModules ∉ as
  | .none, _, _, _, _, h, r => by cases h; cases r; exact ⟨_, Reads.none, by simp⟩
  | .bool b, _, _, _, _, h, r => by cases h; cases r; exact ⟨_, Reads.bool b, by simp⟩
  | .int i, _, _, _, _, h, r => by cases h; obtain ⟨t, rfl⟩ := r; exact ⟨_, Reads.int i t, by simp⟩
  | .str x, _, _, _, _, h, r => by cases h; obtain ⟨t, rfl⟩ := r; exact ⟨_, Reads.str x t, by simp⟩
  | .list ds, _, _, l, _, _, _ => by simp [lfr] at l
  | .tuple ds, _, _, l, sw, h, r => by
    cases h with
    | tup hs ha =>
      cases r
      obtain ⟨its, rv, ⟨o, ho, hc, n, hd⟩, _⟩ := I.tuple hs.sq
      obtain ⟨as, hr, ns⟩ := RpAll.readsD I ds _ its (by simpa only [lfr] using l) (by simpa only [PyData.showable] using sw) ha rv
      exact ⟨_, Reads.tuple ho hc hd hr, ns⟩
  | .dict kvs, _, _, _, sw, h, r => by
    cases h with
    | obj w _ _ _ he => rw [he, odD_hid] at sw; cases sw
    | dct fz hq he =>
      cases r
      subst he
      obtain ⟨ps, rfl⟩ : ∃ ps, fz = .dic ps := by
        cases fz with
        | dic ps => exact ⟨ps, rfl⟩
        | lam x n =>
          have := fnV_hid x n
          rw [show PyData.showable (.dict (fnV x n)) = true from sw] at this
          cases this
        | gfn x =>
          have := gfn_hid x
          rw [show PyData.showable (.dict (fzD (.gfn x))) = true from sw] at this
          cases this
      obtain ⟨z, hsm, vs, kv, o, es, ep, ho, hx, hd, _, hp, _⟩ := dk_rd I.hok hq.1.rd
      obtain ⟨r1, r2⟩ := dict_reads (ps := ps) (h := s.heap) hp kv
      refine ⟨_, Reads.dict ho hx.1 hd r1 r2, ?_⟩
      have : ¬ _ = sysModules := beq_eq_false_iff_ne.mp hsm
      simp
      exact fun z => this z.symm
theorem RpAll.readsD (I : Inv X pins σ H s) : ∀ (ds : List PyData) (vs : List V) (us : List Value), lfrs ds = true → PyData.showableAll ds = true → RpAll X.K H M vs ds → Vals vs us → ∃ as, ReadsAll s.heap us ds as ∧ sysModules ∉ as
  | [], _, _, _, _, h, r => by cases h; cases r; exact ⟨_, ReadsAll.nil, by simp⟩
  | d :: ds, _, _, l, sw, h, r => by
    cases h with
    | cons h1 h2 =>
      cases r with
      | cons r1 r2 =>
        have sw' : PyData.showable d = true ∧ PyData.showableAll ds = true := by simpa only [PyData.showableAll, Bool.and_eq_true] using sw
        have l' : lfr d = true ∧ lfrs ds = true := by simpa only [lfrs, Bool.and_eq_true] using l
        obtain ⟨as, q1, n1⟩ := Rp.readsD I d _ _ l'.1 sw'.1 h1 r1
        obtain ⟨bs, q2, n2⟩ := RpAll.readsD I ds _ _ l'.2 sw'.2 h2 r2
        exact ⟨_, ReadsAll.cons q1 q2, by simp [n1, n2]⟩
end
end
def rpX (d : PyData) : Bool := match d with
  | .tuple _ => true
  | .dict _ => true
  | _ => false
def gReprX : GL := fun ss h => match gRepr ss h with
  | some z => some z
  | none => match ss with
    | [.val d] => if rpX d && lfr d && decide (d.depth ≤ 60) && d.showable && decide (d.shown.length ≤ 16777216) then some (.str d.shown) else none
    | _ => none
theorem call_reprX (hg : X.A.guards = some []) (hu : X.A.units + 65 < cLine) : CallR X (.builtin "repr") fun xs H Q => ∃ v d M, xs = [v] ∧ Rp X.K H M v d ∧ rpX d = true ∧ lfr d = true ∧ d.depth ≤ 60 ∧ d.showable = true ∧ d.shown.length ≤ sizeLine ∧ Q (.str d.shown) H := by
  rintro pins s σ H xs us Q I r ⟨v, d, M, rfl, hd, rx, lf, dp, sh, hz, q⟩
  obtain ⟨u, rfl, ru⟩ := Vals.one r
  obtain ⟨as, rr, ns⟩ := Rp.readsD I d v u lf sh hd ru
  obtain ⟨a, rfl⟩ : ∃ a, u = .ref a := by
    cases d with
    | tuple _ => cases hd; cases ru; exact ⟨_, rfl⟩
    | dict _ => cases hd <;> (cases ru; exact ⟨_, rfl⟩)
    | none => cases rx
    | bool _ => cases rx
    | int _ => cases rx
    | str _ => cases rx
    | list _ => cases rx
  exact repr_of_reads' rr sh (fun _ => ns) hg (by omega) (fun _ _ e => e) (fun h' t tk hk => ⟨.str d.shown, H, I.kept (t' := tk) hk, ⟨_, rfl⟩, q⟩) hz
theorem c_reprX (hg : X.A.guards = some []) (hu : X.A.units + 65 < cLine) : CallR X (.builtin "repr") (rdC X.K C gReprX) := fun pins s σ H xs us Q I r ⟨ρ, h, ss, d, S, r1, e, k⟩ => by
  unfold gReprX at e
  split at e
  · rename_i z ez
    cases e
    exact c_repr hg hu pins s σ H xs us Q I r ⟨ρ, h, ss, _, S, r1, ez, k⟩
  · split at e
    · rename_i z hnz
      split at e
      · rename_i c
        simp only [Bool.and_eq_true, decide_eq_true_eq] at c
        obtain ⟨⟨⟨⟨c1, c2⟩, c3⟩, c4⟩, c5⟩ := c
        cases e
        obtain ⟨y, rfl, ry⟩ := SlVs.one r1
        exact call_reprX hg hu pins s σ H _ us Q I r ⟨y, z, _, rfl, ry, c1, c2, c3, c4, by rw [sizeLine_eq]; exact c5, k _ H (Ex.refl _ _ _) S (.str _)⟩
      · cases e
    · cases e
end
theorem v_reprXo {ss : List Sl} {h : Hs} {z : PyData} (e : gRepr ss h = some z) : gReprX ss h = some z := by unfold gReprX; rw [e]
theorem v_reprX {w k : Nat} {d : PyData} {s : Sl} {h : Hs} (e : dat s h = some d) (r : Rk w k d) (hk : k ≤ 64) (hw : w ≤ 16777216) : gReprX [s] h = some (.str d.shown) := v_reprXo (v_repr e r hk hw)
@[simp] theorem v_mulI {i j : Int} {h : Hs} : gMul (.val (.int i)) (.val (.int j)) h = fMul i j := id rfl
theorem v_mulT {a : List PyData} {k : Nat} {h : Hs} (h1 : a ≠ []) (h2 : 2 ≤ k) (h3 : k ≤ 1000) (h4 : a.length ≤ 1000) : gMul (.val (.tuple a)) (.val (.int k)) h = some (.tuple (List.replicate k a).flatten) := by
  show (if a ≠ [] ∧ 2 ≤ (k : Int) ∧ (k : Int) ≤ 1000 ∧ a.length ≤ 1000 then _ else none) = _
  rw [if_pos ⟨h1, by omega, by omega, h4⟩, Int.toNat_natCast]
end FL
namespace FL
open PySem PySem.Spec PyProof.Rows L2
/-- what stands at a parameter: the i-th value that is handed over, or the j-th default that is left out -/
inductive Ar where
  | ix (i : Nat)
  | df (j : Nat) (d : PyData)
def arX {α : Type} (z : α) (xs mv : List α) : Ar → α
  | .ix i => xs.getD i z
  | .df j _ => mv.getD j z
def arS (ss : List Sl) : Ar → Sl
  | .ix i => ss.getD i (.val .none)
  | .df _ d => .val d
abbrev Shp := Nat × List Str × List Ar
def Shape (K : PySem.W.Frag) (fd : FuncData) (ps : List Str) (sh : Shp) : Prop :=
  ∃ (mv : List Value) (mz : List V), Vals mz mv ∧ (∀ j d, Ar.df j d ∈ sh.2.2 → ∀ H M, Rp K H M (mz.getD j .non) d) ∧
    ∀ (s : Shared) (us ws : List Value), K.In s.heap → us.length = sh.1 → ws.length = sh.2.1.length → BindsTo s fd ⟨us, sh.2.1.zip ws⟩ (ps.zip (sh.2.2.map (arX .none (us ++ ws) mv)))
theorem Vals.getD {vs : List V} {us : List Value} (r : Vals vs us) (i : Nat) : RelV (vs.getD i .non) (us.getD i .none) := by
  induction r generalizing i with
  | nil => exact rfl
  | cons h t ih =>
    cases i with
    | zero => exact h
    | succ i => exact ih i
theorem vals_ar {vs mz : List V} {us mv : List Value} (r : Vals vs us) (q : Vals mz mv) : ∀ T : List Ar, Vals (T.map (arX .non vs mz)) (T.map (arX .none us mv))
  | [] => .nil
  | .ix i :: T => .cons (Vals.getD r i) (vals_ar r q T)
  | .df j _ :: T => .cons (Vals.getD q j) (vals_ar r q T)
theorem SlVs.getD {K : PySem.W.Frag} {C : Fc} {ρ : Fps} {H : Hp} {vs : List V} {ss : List Sl} (r : SlVs K C ρ H vs ss) (i : Nat) : SlV K C ρ H (vs.getD i .non) (ss.getD i (.val .none)) := by
  induction r generalizing i with
  | nil => exact Rp.non
  | cons h t ih =>
    cases i with
    | zero => exact h
    | succ i => exact ih i
theorem slvs_ar {K : PySem.W.Frag} {C : Fc} {ρ : Fps} {H : Hp} {vs mz : List V} {ss : List Sl} (r : SlVs K C ρ H vs ss) : ∀ T : List Ar, (∀ j d, Ar.df j d ∈ T → ∀ H M, Rp K H M (mz.getD j .non) d) → SlVs K C ρ H (T.map (arX .non vs mz)) (T.map (arS ss))
  | [], _ => .nil
  | .ix i :: T, h => .cons (SlVs.getD r i) (slvs_ar r T fun j d m => h j d (List.mem_cons_of_mem _ m))
  | .df j d :: T, h => .cons (h j d List.mem_cons_self H _) (slvs_ar r T fun j d m => h j d (List.mem_cons_of_mem _ m))
def callA (m : Fm) (io : List Bool) (fr : Bool) (sh : Shp) (ss ts : List Sl) (h : Hs) : Rz Sl := if ss.length = sh.1 ∧ ts.length = sh.2.1.length then callF m io fr (sh.2.2.map (arS (ss ++ ts))) h else .bad
def eCallA (m : Fm) (io : List Bool) (fr : Bool) (sh : Shp) (fa fk : Av) : Ev := fun env h => (fa env h).bind fun ss h => (fk env h).bind fun ts h => callA m io fr sh ss ts h
theorem SlVs.len {K : PySem.W.Frag} {C : Fc} {ρ : Fps} {H : Hp} {vs : List V} {ss : List Sl} (r : SlVs K C ρ H vs ss) : vs.length = ss.length := Paired.length r
theorem SlVs.exs {K : PySem.W.Frag} {C : Fc} {ρ ρ' : Fps} {H H' : Hp} (x : Ex C ρ H ρ' H') {vs : List V} {ss : List Sl} (r : SlVs K C ρ H vs ss) : SlVs K C ρ' H' vs ss := by
  induction r with
  | nil => exact .nil
  | cons h t ih => exact .cons (SlV.ex x h) ih
section
variable {X : Cx} {C : Fc} {Wx : WX} {k : Nat} {f : Addr} {fd : FuncData} {ps : List Str} {m : Fm} {io : List Bool} {fr : Bool} {x : Str} {p pos kpos : Pos} {e : Expr} {es : List Expr} {fa fk g : Av} {fe : Ev} {kws : List Keyword} {nm : Option Str} {sh : Shp}
theorem run_fnA {pins : List (Addr × Obj)} {σ : St} {H : Hp} {s : Shared} {Q : VK} {us ws zs : List Value} {ks : List Str} {vs : List V} {sp : Sp} (F : FnG X.prog X.w X.K X.mg X.base (L2.CX X.prog X.w) k f fd ps sp) (hgd : X.A.guards = some []) (hr : Room k X.A) (b : BindsTo s fd ⟨us, ks.zip ws⟩ (ps.zip zs)) (tk : Takes X Wx)
    (I : Inv X pins σ H s) (r : Vals vs zs) (h : sp vs H Q fun cls d H' => Wx cls d σ H') : wpAny (model X.prog X.w) X.A (call (.ref f) us (ks.zip ws)) (EP X pins σ Q) X.xe s := by
  refine wpAny_call (codeAny_mono (F.run X.A X.stack s H ⟨us, ks.zip ws⟩ zs vs Q _ hgd hr I.env0 b r h) ?_)
  rintro (er | fl) s' hq
  · exact tk _ s' (XE.of_call I (fun _ _ _ w => w) hq)
  · cases fl with
    | ret u => exact I.after hq
    | _ => exact False.elim hq
/-- f(e, ..), some left out -/
theorem fe_callA {T : List (Addr × Str)} (F : FnG X.prog X.w X.K X.mg X.base (L2.CX X.prog X.w) k f fd ps (spOf X.K X.mg T fr io m)) (hT : C.T = T) (hgd : X.A.guards = some []) (hr : Room k X.A) (tk : Takes X Wx) (hg : Gl X x) (hm : X.mg x = some (.ref f)) (hk : PySem.W.keepIn X.K (.ref f) = true) (hb : Shape X.K fd ps sh) (h0 : sh.2.1 = [])
    (ha : FA X C Wx (e :: es) fa) (hdb : (x == ("__debug__" : Str)) = false := by decide) (he : starEach (e :: es) X.env = (false, eval e X.env) :: starEach es X.env := by rfl) (hpl : (backTo pos (starEach es X.env)).any (·.1) = false := by rfl) :
    FE X C Wx (.Call (.Name x p) (e :: es) [] pos) (eCallA m io fr sh fa aNil) := by
  obtain ⟨mv, mz, vm, hd, bt⟩ := hb
  subst hT
  refine ⟨fun pins s σ H Q I hh => wpAny_Call_Name_kw (ld_glob I hg hm ?_ hdb)⟩
  have h2 : rd X.K X.mg C Wx (relA X.K C) fa σ H fun vs H1 => vs.length = sh.1 ∧ spOf X.K X.mg C.T fr io m (sh.2.2.map (arX .non vs mz)) H1 Q fun cls d H' => Wx cls d σ H' := rd.bind (f := fa) (g := fun ss env h => (aNil env h).bind fun ts h => callA m io fr sh ss ts h) hh fun ρ1 env h1 ss vs H1 S1 E1 r1 P1 => by
    have P2 : Po X.K X.mg C Wx σ ρ1 H1 (relE X.K C) (if ss.length = sh.1 ∧ ([] : List Sl).length = sh.2.1.length then callF m io fr (sh.2.2.map (arS (ss ++ []))) h1 else .bad) Q := P1
    split at P2
    · rename_i hl
      rw [List.append_nil] at P2
      exact ⟨r1.len.trans hl.1, sp_call S1 (slvs_ar r1 _ hd) P2⟩
    · exact P2.elim
  refine PySem.W.callWith_K (h₀ := X.base) I.ok.mod.kin hk (thn (ha.run pos pins s σ H _ I h2) ?_) he hpl
  rintro us s1 ⟨vs, H1, I1, r, hl, q⟩
  have b := bt s1 us [] I1.kIn (r.length.symm.trans hl) (by rw [h0]; rfl)
  rw [List.append_nil] at b
  have := run_fnA (ks := sh.2.1) (ws := []) F hgd hr b tk I1 (vals_ar r vm _) q
  rw [List.zip_nil_right] at this
  exact ⟨I1.kIn, this⟩
end
/-- a keyword-only default that K holds -/
def dfB (K : PySem.W.Frag) (kV : Value) (x : Str) (d : PyData) : Bool := match kV with
  | .ref D => match PySem.W.nsIn K D x with
    | some (some u) => match u, d with
      | .int i _, .int j => decide (i = j)
      | .str a _, .str b => decide (a = b)
      | .none, .none => true
      | .ref a, .tuple [] => match K.lookup a with
        | some ⟨.type c, _, .seq its _, _⟩ => decide (c = "tuple") && its.isEmpty
        | _ => false
      | _, _ => false
    | _ => false
  | _ => false
def KwD (K : PySem.W.Frag) (fd : FuncData) (l : List (Str × PyData)) : Prop := l = [] ∨ ∃ D : Addr, fd.kwdefaults = .ref D ∧ ∀ q ∈ l, ∃ (u : Value) (v : V), PySem.W.nsIn K D q.1 = some (some u) ∧ RelV v u ∧ ∀ H M, Rp K H M v q.2
theorem dfB_ok {K : PySem.W.Frag} {kV : Value} {x : Str} {d : PyData} (h : dfB K kV x d = true) : ∃ D : Addr, kV = .ref D ∧ ∃ (u : Value) (v : V), PySem.W.nsIn K D x = some (some u) ∧ RelV v u ∧ ∀ H M, Rp K H M v d := by
  unfold dfB at h
  split at h
  · rename_i D
    refine ⟨D, rfl, ?_⟩
    split at h
    · rename_i u e
      refine ⟨u, ?_⟩
      split at h
      · rename_i i t j
        have : i = j := of_decide_eq_true h
        subst this
        exact ⟨.int i, e, ⟨t, rfl⟩, fun H M => .int i⟩
      · rename_i a t b
        have : a = b := of_decide_eq_true h
        subst this
        exact ⟨.str a, e, ⟨t, rfl⟩, fun H M => .str a⟩
      · exact ⟨.non, e, rfl, fun H M => .non⟩
      · rename_i a
        split at h
        · rename_i c od its n sl lk
          rw [Bool.and_eq_true] at h
          have hc : c = "tuple" := of_decide_eq_true h.1
          have hi : its = #[] := Array.isEmpty_iff.mp h.2
          subst hc hi
          exact ⟨.ref a, e, rfl, fun H M => .tup (.inr ⟨_, _, _, lk, rfl, rfl, by simp, .nil⟩) .nil⟩
        · cases h
      · cases h
    · cases h
  · cases h
section
variable {K : PySem.W.Frag} {x qual : Str} {st : Stmt} {f : Addr} {fd : FuncData} {ps : List Str} {sh : Shp} {dl : List (Str × PyData)}
/-- some are left out -/
theorem shape_df (F : Fun K x qual st f fd) (kd : KwD K fd dl) (ms : List (Str × PyData)) (hms : ∀ q ∈ ms, q ∈ dl) (hne : dl ≠ []) (hT : ∀ j d, Ar.df j d ∈ sh.2.2 → ∃ y, ms[j]? = some (y, d))
    (h : ∀ (D : Addr) (doc pm : Value) (an : Option Addr) (cdv ct : Value) (us ws mv : List Value), us.length = sh.1 → ws.length = sh.2.1.length → mv.length = ms.length →
      KwChain D ((ms.map (·.1)).zip mv) (bindArgs (PySem.W.fnOf x qual (defArgs st) (defBody st) (defScope st) .none (.ref D) doc pm an cdv ct) ⟨us, sh.2.1.zip ws⟩) (ps.zip (sh.2.2.map (arX .none (us ++ ws) mv)))) : Shape K fd ps sh := by
  obtain ⟨oc, od, kV, doc, pm, an, cdv, ct, osl, rfl, lk, hcd⟩ := F.ex
  rcases kd with z | ⟨D, eD, hq⟩
  · exact absurd z hne
  have eD' : kV = .ref D := eD
  subst eD'
  have key : ∀ ms : List (Str × PyData), (∀ q ∈ ms, q ∈ dl) → ∃ (mv : List Value) (mz : List V), mv.length = ms.length ∧ Vals mz mv ∧ (∀ q ∈ (ms.map (·.1)).zip mv, PySem.W.nsIn K D q.1 = some (some q.2)) ∧ ∀ (j : Nat) (y : Str) (d : PyData), ms[j]? = some (y, d) → ∀ H M, Rp K H M (mz.getD j .non) d := by
    intro ms
    induction ms with
    | nil => exact fun _ => ⟨[], [], rfl, .nil, fun q m => (nomatch m), fun j y d e => by simp at e⟩
    | cons m ms ih =>
      intro hm
      obtain ⟨mv, mz, l, r, a, b⟩ := ih fun q hq => hm q (List.mem_cons_of_mem _ hq)
      obtain ⟨u, v, e1, e2, e3⟩ := hq m (hm m List.mem_cons_self)
      refine ⟨u :: mv, v :: mz, congrArg Nat.succ l, .cons e2 r, fun q hq => ?_, fun j y d e => ?_⟩
      · rcases List.mem_cons.mp (show q ∈ (m.1, u) :: (ms.map (·.1)).zip mv from hq) with z | z
        · rw [z]; exact e1
        · exact a q z
      · cases j with
        | zero =>
          have e' : m = (y, d) := by simpa using e
          subst e'
          exact e3
        | succ j => exact b j y d (by simpa using e)
  obtain ⟨mv, mz, l, r, a, b⟩ := key ms hms
  refine ⟨mv, mz, r, fun j d m => ?_, fun s us ws X l1 l2 => BindsTo.of_looks fun M => KwChain.looks X a (h D doc pm an cdv ct us ws mv l1 l2 l)⟩
  obtain ⟨y, e⟩ := hT j d m
  exact b j y d e
end
/-- a def that keeps its promise, by the shapes of its calls -/
structure CalK (P : Program) (w : World) (K : PySem.W.Frag) (mg : Str → Option Value) (base : Heap) (x : Str) (k : Nat) (ps : List Str) (sp : Sp) (shs : List Shp) : Prop where
  ex : ∃ (f : Addr) (fd : FuncData), FnG P w K mg base (L2.CX P w) k f fd ps sp ∧ mg x = some (.ref f) ∧ PySem.W.keepIn K (.ref f) = true ∧ ∀ sh ∈ shs, Shape K fd ps sh
section
variable {m : Fm} {io : List Bool} {fr : Bool} {sh : Shp} {fa fk : Av} {env : En} {h : Hs} {ss ts : List Sl}
@[simp] theorem v_callA : eCallA m io fr sh fa fk env h = (fa env h).bind fun ss h => (fk env h).bind fun ts h => callA m io fr sh ss ts h := id rfl
theorem callA_of (h1 : ss.length = sh.1) (h2 : ts.length = sh.2.1.length) : callA m io fr sh ss ts h = callF m io fr (sh.2.2.map (arS (ss ++ ts))) h := by unfold callA; rw [if_pos ⟨h1, h2⟩]
end
end FL
namespace FL
open PySem PySem.Spec PyProof.Rows L2
def eNever : Ev := fun _ _ => .bad
theorem fe_never {X : Cx} {C : Fc} {Wx : WX} {e : Expr} : FE X C Wx e eNever := ⟨fun pins s σ H Q I ⟨ρ, env, h, S, E, P⟩ => P.elim⟩
def eCallW (i : Nat) (mw : Exn → Option PyData) : Ev := fun env h => match env[i]? with
  | some (some (.exn x)) => match mw x with
    | some d => .ok (.val d) h
    | none => .bad
  | _ => .bad
section
variable {X : Cx} {C : Fc} {Wx : WX}
theorem fe_callW {T : List (Addr × Str)} {p : Addr × Obj} {x : Exn} {D : Addr} {i kw : Nat} {fw : Addr} {fdw : FuncData} {pw n x0 : Str} {ys : List Str} {mw : Exn → Option PyData} {p1 p2 pos : Pos} (hh : Held X C p x D) (hx : KxOk X.K X.mg ys x D) (FW : FnW X.prog X.w X.K X.mg X.base T kw fw fdw pw ys mw) (hT : C.T = T) (hgd : X.A.guards = some []) (hr : L2H.RoomH kw X.A)
    (hb : Binds X.K fdw [pw] []) (hg : Gl X x0) (hm : X.mg x0 = some (.ref fw)) (hk : PySem.W.keepIn X.K (.ref fw) = true)
    (hN : X.N[i]? = some n := by rfl) (hv : Vis X.env.scope n := by first | exact Or.inl rfl | exact Or.inr (Or.inl rfl) | exact Or.inr (Or.inr rfl)) (hd : (n == ("__debug__" : Str)) = false := by decide) (hcd : (n == ("__classdict__" : Str)) = false := by decide) (hdb : (x0 == ("__debug__" : Str)) = false := by decide)
    (he : starEach [.Name n p2] X.env = (false, eval (.Name n p2) X.env) :: starEach [] X.env := by rfl) (hpl : (backTo pos (starEach [] X.env)).any (·.1) = false := by rfl) :
    FE X C Wx (.Call (.Name x0 p1) [.Name n p2] [] pos) (eCallW i mw) := by
  subst hT
  constructor
  rintro pins s σ H Q I ⟨ρ, env, h, S, E, P⟩
  unfold eCallW at P
  split at P
  · rename_i z ez
    obtain ⟨v, e1, a, e2, rfl⟩ := E.at_ i _ ez
    rw [hh.exc] at e2
    cases e2
    cases em : mw x with
    | none => rw [em] at P; exact P.elim
    | some d =>
      rw [em] at P
      refine wpAny_Call_Name_kw (ld_glob I hg hm ?_ hdb)
      have hA : PA X [.Name n p2] (tCons (tVar i) tNil) := pa_cons (pe_var hN hv hd hcd) pa_nil he
      refine PySem.W.callWith_K (h₀ := X.base) I.ok.mod.kin hk (thn (hA.run pos pins s σ H (fun vs G1 => vs = [.ref p.1] ∧ G1 = H) I ⟨_, e1, rfl, rfl⟩) ?_) he hpl
      rintro us s1 ⟨vs, G1, I1, r, rfl, rfl⟩
      obtain ⟨u, rfl, ru⟩ := Vals.one r
      cases (show u = Value.ref p.1 from ru)
      have P1 := I1.pin p (List.mem_append_left _ hh.pin)
      have pin : L2H.PinOk X.stack G1 s1 p := ⟨P1.1, P1.2.1, fun z => (List.mem_cons.mp (I1.stkSub p.1 z)).elim P1.2.2.1 P1.2.2.2.1, P1.2.2.2.2⟩
      have b := hb s1 [.ref p.1] I1.kIn rfl
      have hB : ∀ b, Mo C ρ b → ∃ o, G1 b = some o := fun b m => by
        rcases m with m | m
        · exact S.trk b m
        · exact (S.bar b m).2
      refine ⟨I1.kIn, wpAny_call (codeAny_mono (FW.run X.A X.stack s1 G1 p x D d Q (Mo C ρ) ⟨fun b m => ⟨by simp, hB b m⟩, fun b xs m w => S.freeX w m⟩ hgd hr pin hh.z hh.f hx I1.env0 S.tab b em fun v H' fk rv => ?_) ?_)⟩
      · obtain ⟨S', st⟩ := call_after (C2 := { C with Bar := fun a => C.Bar a ∨ False }) (D := fun _ => False) (ad := []) (vr := []) (ns := []) (vw := []) (os' := []) S .nil .nil (fun a m => nomatch m) (by simp) (by simp) fk ⟨rfl, fun n a o e _ => by simp at e⟩ (.inl rfl) rfl (fun _ z => z.elim) (fun _ z => z.elim)
        have eC : ({ C with Bar := fun a => C.Bar a ∨ False } : Fc) = C := by
          cases C
          simp
        rw [eC] at S' st
        exact P ρ v H' ⟨st, fun n fp e => ⟨fp, e, pfx_rfl⟩⟩ S' rv
      · rintro (er | fl) s' h'
        · obtain ⟨_, _, _, _, _, _, _, _, _, _, _, _, z⟩ := h'
          exact z.elim
        · cases fl with
          | ret u => exact I1.after h'
          | _ => exact False.elim h'
  · exact P.elim
end
def ddI (ns : List Int) : List Int := ns.foldl (fun acc n => if acc.any (· == n) then acc else acc ++ [n]) []
def gLenSet : Sl → Hs → Option PyData := fun s h => match (litems s h).bind ints? with
  | some ns => if ns.length ≤ 4000 then some (.int ((ddI ns).length : Nat)) else none
  | none => none
theorem firstMet_dd (ns : List Int) : ∀ i, i ≤ ns.length → PyProof.Rows.firstMet (fun i => ns.getD i 0) i = ddI (ns.take i)
  | 0, _ => rfl
  | i + 1, hi => by
    have hlt : i < ns.length := hi
    have e1 : ns.getD i 0 = ns[i] := by
      rw [List.getD_eq_getElem?_getD, List.getElem?_eq_getElem hlt] <;> rfl
    have e2 : ns.take (i + 1) = ns.take i ++ [ns[i]] := by
      rw [List.take_add_one, List.getElem?_eq_getElem hlt] <;> rfl
    rw [PyProof.Rows.firstMet_succ, firstMet_dd ns i (Nat.le_of_lt hlt), e2]
    unfold ddI
    rw [List.foldl_append]
    show (if (ddI (ns.take i)).any (· == ns.getD i 0) then ddI (ns.take i) else ddI (ns.take i) ++ [ns.getD i 0]) = _
    rw [e1]
    rfl
theorem ddI_len (ns : List Int) : (ddI ns).length ≤ ns.length := by
  have : ∀ (ns acc : List Int), (ns.foldl (fun acc n => if acc.any (· == n) then acc else acc ++ [n]) acc).length ≤ acc.length + ns.length := by
    intro ns
    induction ns with
    | nil => intro acc; simp
    | cons n ns ih =>
      intro acc
      rw [List.foldl_cons, List.length_cons]
      refine Nat.le_trans (ih _) ?_
      split
      · omega
      · rw [List.length_append, List.length_singleton]
        omega
  have := this ns []
  rw [List.length_nil, Nat.zero_add] at this
  exact this
def tLenSetX (K : PySem.W.Frag) (ta : TE) : TE := fun σ H Q => ta σ H fun x H1 => ∃ (l : Addr) (ns : List Int), x = .ref l ∧ SqL K H1 l (ns.map V.int) ∧ ns.length ≤ 4000 ∧ Q (.int ((ddI ns).length : Nat)) H1
theorem pe_lenSetX {X : Cx} {a : Expr} {ta : TE} {p p2 q pos : Pos} (hg : Gl X "len") (hm : X.mg "len" = none) (hg2 : Gl X "set") (hm2 : X.mg "set" = none) (ha : PE X a ta) (hc : X.calm = true := by rfl)
    (na : starEach [a] X.env = (false, eval a X.env) :: starEach [] X.env := by rfl) : PE X (.Call (.Name "len" p) [.Call (.Name "set" p2) [a] [] q] [] pos) (tLenSetX X.K ta) := by
  refine ⟨fun pins s σ H Q I h => ?_⟩
  refine Call_ (ld_blt I hg hm PySem.boot_len ?_)
  refine PyProof.Rows.callWith_builtin1 (PyProof.Rows.args_cons ?_ rfl) rfl rfl
  refine Call_ (ld_blt I hg2 hm2 PyProof.Rows.boot_set ?_)
  refine PyProof.Rows.callWith_type1 (PyProof.Rows.args_cons (thn (ha.run pins s σ H _ I h) fun v s1 ⟨x, H1, I1, r1, q1⟩ => PyProof.Rows.args_nil ?_) na) na rfl
  obtain ⟨l, ns, rfl, hq, hl, q1⟩ := q1
  cases r1
  obtain ⟨its, r, pl, hz⟩ := I1.list hq
  have hlen : its.toArray.size = ns.length := by rw [List.size_toArray, ← r.length, List.length_map]
  refine call_set_list (I1.ok.hd hc) pl.isList (by simpa using RZ.intsAre_vals r) (by rw [hlen]; unfold scanBound; omega) fun h' tk hS hk => ?_
  refine PyProof.Rows.args_nil ?_
  rw [hlen, firstMet_dd ns ns.length (Nat.le_refl _), List.take_length] at hS
  obtain ⟨o, es, ep, t, ho, hex, hd, _, _, _, hf, hn⟩ := hS
  have I2 : Inv X pins σ H1 { s1 with heap := h', toks := tk } := I1.kept fun b o e => hk b o (Heap.lt_size e) e
  have := ddI_len ns
  exact call_len_set ho hex hd hf (by rw [hn] <;> omega) ⟨.int (ddI ns).length, H1, I2.tok _, ⟨_, by rw [hn]⟩, q1⟩
section
variable {X : Cx} {C : Fc} {Wx : WX}
theorem fe_lenSet {a : Expr} {f : Ev} {p p2 q pos : Pos} (hc : X.calm = true) (hg : Gl X "len") (hm : X.mg "len" = none) (hg2 : Gl X "set") (hm2 : X.mg "set" = none) (ha : FE X C Wx a f)
    (na : starEach [a] X.env = (false, eval a X.env) :: starEach [] X.env := by rfl) : FE X C Wx (.Call (.Name "len" p) [.Call (.Name "set" p2) [a] [] q] [] pos) (cUn gLenSet f) := PE.imp (pe_lenSetX hg hm hg2 hm2 ha hc na) fun σ H Q p => by
  refine rd.bind (f := f) (g := fun s env h => .give (gLenSet s h) h) p fun ρ1 env h1 s x H1 S1 E1 r1 P1 => ?_
  unfold gLenSet at P1
  cases e1 : (litems s h1).bind ints? with
  | none => rw [e1] at P1; exact P1.elim
  | some ns =>
    rw [e1] at P1
    dsimp only at P1
    split at P1
    · rename_i hl
      obtain ⟨ds, e2, e3⟩ := Option.bind_eq_some_iff.mp e1
      obtain ⟨a, vs, rfl, sq, ra⟩ := litems_rel S1 r1 e2
      have ev := ints_rel ra e3
      subst ev
      exact ⟨a, ns, rfl, sq, hl, P1 ρ1 _ H1 (Ex.refl _ _ _) S1 (.int _)⟩
    · exact P1.elim
def rep? (ss : List Sl) (t : Sl) : Option (List PyData) := match vals? ss, t with
  | some ds, .val (.int k) => if ds.length ≤ 16777216 ∧ -(2 ^ 63) ≤ k ∧ k < 2 ^ 63 ∧ ds.length * k.toNat ≤ 16777216 then some (List.replicate k.toNat ds).flatten else none
  | _, _ => none
def eRepG (g : List Sl → Sl → Hs → Rz Sl) (fa : Av) (fb : Ev) : Ev := fun env h => (fa env h).bind fun ss h => if ss.length ≤ 16777216 then (fb env h).bind fun t h => g ss t h else .bad
def gRep (ss : List Sl) (t : Sl) (h : Hs) : Rz Sl := .give ((rep? ss t).map .list) h
theorem fe_repG {es : List Expr} {b : Expr} {fa : Av} {fb : Ev} {p pos : Pos} {g : List Sl → Sl → Hs → Rz Sl} (ha : FA X C Wx es fa) (hb : FE X C Wx b fb)
    (hg : ∀ (σ : St) (ρ : Fps) (h : Hs) (H : Hp) (ss : List Sl) (t : Sl) (vs : List V) (v : V) (Q : VK) (l : Addr), SimH X.K C ρ h H → SlVs X.K C ρ H vs ss → SlV X.K C ρ H v t → H l = some (.lst vs) → Po X.K X.mg C Wx σ ρ H (relE X.K C) (g ss t h) Q → rRep (.ref l) v H Q) :
    FE X C Wx (.BinOp (.List es p) .Mult b pos) (eRepG g fa fb) := PE.imp (pe_op op_rep (pe_lst ha) hb) fun σ H Q p => by
  refine rd.bind (f := fa) (g := fun ss env h => if ss.length ≤ 16777216 then (fb env h).bind fun t h => g ss t h else .bad) p fun ρ1 env h1 ss xs H1 S1 E1 r1 P1 => ?_
  split at P1
  · rename_i hl
    refine ⟨by rw [r1.len, sizeLine_eq]; exact hl, fun l hl' => ?_⟩
    have x1 : Ex C ρ1 H1 ρ1 (upd H1 l (.lst xs)) := Ex.laid S1 hl'
    refine rd.of (env := env) (h := h1) (S1.laid hl') (E1.ex x1) ?_
    have P2 := Po.ex x1 P1
    have nm : ¬ Mo C ρ1 l := fun m => by
      rcases m with m | m
      · obtain ⟨o, e⟩ := S1.trk l m
        rw [hl'] at e; cases e
      · obtain ⟨_, o, e⟩ := S1.bar l m
        rw [hl'] at e; cases e
    cases q : fb env h1 with
    | bad => rw [q] at P2; exact P2
    | err y h2 => rw [q] at P2; exact P2
    | ok t h2 =>
      intro ρ2 y H3 x2 S3 r3
      rw [q, v_bind] at P2
      have P3 := Po.ex x2 P2
      exact hg σ ρ2 h2 H3 ss t xs y Q l S3 (SlVs.exs x2 (SlVs.exs x1 r1)) r3 (x2.stp.keep (o := .lst xs) upd_same nm nt_lst) P3
  · exact P1.elim
theorem rep_rel {ρ : Fps} {H : Hp} {ss : List Sl} {t : Sl} {vs : List V} {v : V} {ds : List PyData} (r1 : SlVs X.K C ρ H vs ss) (r2 : SlV X.K C ρ H v t) (e : rep? ss t = some ds) : ∃ k : Int, v = .int k ∧ -(2 ^ 63) ≤ k ∧ k < 2 ^ 63 ∧ vs.length * k.toNat ≤ sizeLine ∧ RpAll X.K H (Mo C ρ) (List.replicate k.toNat vs).flatten ds := by
  unfold rep? at e
  split at e
  · rename_i d0 k ev
    split at e
    · rename_i c
      cases e
      cases (show Rp X.K H (Mo C ρ) v (.int k) from r2)
      have ra := vals_rel r1 ev
      exact ⟨k, rfl, c.2.1, c.2.2.1, by rw [ra.length, sizeLine_eq]; exact c.2.2.2, ra.flat _⟩
    · cases e
  · cases e
theorem fe_rep {es : List Expr} {b : Expr} {fa : Av} {fb : Ev} {p pos : Pos} (ha : FA X C Wx es fa) (hb : FE X C Wx b fb) : FE X C Wx (.BinOp (.List es p) .Mult b pos) (eRepG gRep fa fb) := fe_repG ha hb fun σ ρ h H ss t vs v Q l S r1 r2 e P => by
  unfold gRep at P
  cases q : rep? ss t with
  | none => rw [q] at P; exact P.elim
  | some ds =>
    rw [q] at P
    obtain ⟨k, rfl, h1, h2, h3, ra⟩ := rep_rel r1 r2 q
    exact ⟨l, k, vs, rfl, rfl, e, h1, h2, h3, fun p hp => P ρ _ _ (Ex.laid S hp) (S.laid hp) (Rp.newLst S hp ra)⟩
end
section
variable {env : En} {h : Hs} {fa : Av} {fb : Ev} {g : List Sl → Sl → Hs → Rz Sl} {i : Nat} {mw : Exn → Option PyData}
def repg? (g : List Sl → Sl → Hs → Rz Sl) (ss : List Sl) (r : Rz Sl) : Rz Sl := if ss.length ≤ 16777216 then r.bind fun t h => g ss t h else .bad
@[simp] theorem v_repG : eRepG g fa fb env h = (fa env h).bind fun ss h => repg? g ss (fb env h) := id rfl
@[simp] theorem v_rep1 {s t : Sl} {h1 : Hs} : repg? g [s] (.ok t h1) = g [s] t h1 := by
  show (if [s].length ≤ 16777216 then g [s] t h1 else .bad) = _
  rw [if_pos (by simp)]
end
@[simp] theorem v_lenSet {s : Sl} {h : Hs} : gLenSet s h = ((litems s h).bind ints?).bind fun ns => if ns.length ≤ 4000 then some (.int ((ddI ns).length : Nat)) else none := by
  unfold gLenSet
  cases (litems s h).bind ints? <;> rfl
end FL
namespace FL
open PySem PySem.Spec PyProof.Rows L2
def setAll : En → List Nat → List Sl → En
  | env, i :: is, s :: ss => setAll (env.set i (some s)) is ss
  | env, _, _ => env
def sParL (is : List Nat) (f : Av) : Sv := fun env h => (f env h).fl env fun ss h => if ss.length = is.length ∧ ss.length ≤ 16777216 then .next (setAll env is ss) h else .bad
section
variable {env : En} {h : Hs} {fa : Av} {is : List Nat} {ss : List Sl}
def parL? (is : List Nat) (ss : List Sl) (env : En) (h : Hs) : Fl := if ss.length = is.length ∧ ss.length ≤ 16777216 then .next (setAll env is ss) h else .bad
@[simp] theorem v_parL : sParL is fa env h = (fa env h).fl env fun ss h => parL? is ss env h := id rfl
@[simp] theorem v_setA0 : setAll env [] [] = env := id rfl
@[simp] theorem v_setA {i : Nat} {s : Sl} : setAll env (i :: is) (s :: ss) = setAll (env.set i (some s)) is ss := id rfl
end
end FL
namespace FL
open PySem PySem.Spec PyProof.Rows L2
theorem sSeq_eq {p q : Sv} {env e1 : En} {h h1 : Hs} (e : p env h = .next e1 h1) : sSeq p q env h = q e1 h1 := by rw [v_seq, e, v_seqN]
theorem v_last {l : List PyData} {x : PyData} : atI (l ++ [x]) (-1) = some x := by
  unfold atI ixN
  rw [if_neg (by decide)]
  have e : (l ++ [x]).length = l.length + 1 := by simp
  rw [e, if_pos (by omega)]
  have e2 : (-1 + ((l.length + 1 : Nat) : Int)).toNat = l.length := by omega
  show (l ++ [x])[(-1 + ((l.length + 1 : Nat) : Int)).toNat]? = some x
  rw [e2]
  simp
theorem v_neNilO {ds : List PyData} {h : Hs} {k : Nat} (e : h[k]? = some (.lst ds)) (hs : shp (.list ds) = true) : gNe (.loc k) (.val (.list [])) h = some (.bool (!ds.isEmpty)) := by
  have ed : dat (.loc k) h = some (.list ds) := by rw [v_datO, e]; rfl
  show (match dat (.loc k) h, dat (.val (.list [])) h with | some d, some e => if eqOk d e then some (PyData.bool (!PyData.eqv d e)) else none | _, _ => none) = _
  rw [ed]
  show (if eqOk (.list ds) (.list []) then some (PyData.bool (!PyData.eqv (.list ds) (.list []))) else none) = _
  have e : eqOk (.list ds) (.list []) = true := by
    have h0 : shp (.list []) = true := by decide +kernel
    show (shp _ && shp _) = _
    rw [hs, h0]
    rfl
  rw [e]
  cases ds <;> simp [PyData.eqv, PyData.eqvAll]
theorem rk_road {n : Nat} {r : Road} (hn : n ≤ 10) (h : r.Ok n) : Rk 7700 1 r.d := by
  have := h.one
  have := h.other
  have := h.c2
  have := h.t
  refine (Rk.tuple (w := 1921) (k := 0) fun d m => ?_).mono (by simp) (Nat.le_refl _)
  simp only [List.mem_cons, List.not_mem_nil, or_false] at m
  rcases m with rfl | rfl | rfl | rfl <;> exact Rk.small (by omega) (by omega)
def cat? (s t : Sl) (h : Hs) : Rz Sl := match litems s h, litems t h with
  | some a, some b => if lineOk (a.length + b.length) then .ok (.loc h.length) (h ++ [.lst (a ++ b)]) else .bad
  | _, _ => .bad
theorem v_catN {f1 f2 : Ev} {env : En} {h : Hs} : eCatN f1 f2 env h = (f1 env h).bind fun s h => (f2 env h).bind fun t h => cat? s t h := rfl
structure Gd (d : PyData) : Prop where
  rep : ∃ x, ∀ h, gReprX [.val d] h = some (.str x)
  len : ∀ ds, d = .tuple ds → ds.length ≤ 100000
theorem Gd.of {w k : Nat} {d : PyData} (r : Rk w k d) (hk : k ≤ 64) (hw : w ≤ 16777216) (hl : ∀ ds, d = .tuple ds → ds.length ≤ 100000) : Gd d := ⟨⟨_, fun h => v_reprX rfl r hk hw⟩, hl⟩
def gdB (d : PyData) : Bool := (gReprX [.val d] []).isSome && (match d with
  | .tuple ds => decide (ds.length ≤ 100000)
  | _ => true)
theorem gRepr_str {d z : PyData} {h : Hs} (e : gReprX [.val d] h = some z) : ∃ x, z = .str x := by
  unfold gReprX at e
  split at e
  · rename_i z' ez
    cases e
    unfold gRepr at ez
    dsimp only at ez
    split at ez
    · split at ez
      · cases ez; exact ⟨_, rfl⟩
      · cases ez
    · cases ez
  · dsimp only at e
    split at e
    · cases e; exact ⟨_, rfl⟩
    · cases e
theorem gdB_ok {d : PyData} (h : gdB d = true) : Gd d := by
  unfold gdB at h
  rw [Bool.and_eq_true] at h
  obtain ⟨h1, h2⟩ := h
  obtain ⟨z, e⟩ := Option.isSome_iff_exists.mp h1
  obtain ⟨x, rfl⟩ := gRepr_str e
  refine ⟨⟨x, fun h => e⟩, fun ds q => ?_⟩
  subst q
  simpa using h2
/-- a tuple, a list of small things -/
def atom (d : PyData) : Prop := Rk 1921 0 d
theorem Gd.tup {ds : List PyData} (h : ∀ d ∈ ds, atom d) (hl : ds.length ≤ 8000) : Gd (.tuple ds) := Gd.of (Rk.tuple h) (by decide) (by omega) fun es q => by cases q; omega
theorem Gd.lst {ds : List PyData} (h : ∀ d ∈ ds, atom d) (hl : ds.length ≤ 8000) : Gd (.list ds) := Gd.of (Rk.list h) (by decide) (by omega) fun es q => by cases q
theorem shp_roads {n : Nat} {rs : List Road} (hn : n ≤ 10) (h : ∀ r ∈ rs, r.Ok n) : shp (.list (rs.map Road.d)) = true := by
  refine (Rk.list (w := 7700) (k := 1) (ds := rs.map Road.d) fun d m => ?_).shp (by decide)
  obtain ⟨r, hr, rfl⟩ := List.mem_map.mp m
  exact rk_road hn (h r hr)
end FL
namespace FL
open PySem PySem.Spec PyProof.Rows L2
inductive Kd (d : PyData) : Prop
  | rk (w k : Nat) (r : Rk w k d) (hw : w ≤ 1000000) (hk : k ≤ 20) : Kd d
  | d0 (e : d = .dict []) : Kd d
  | d1 (e : d = .dict [(.int 0, .int 1)]) : Kd d
def rkB (d : PyData) : Bool := d.canLay0 && decide (d.depth ≤ 5) && d.showable && decide (d.shown.length ≤ 1000)
theorem rkB_ok {d : PyData} (h : rkB d = true) : Kd d := by
  unfold rkB at h
  simp only [Bool.and_eq_true, decide_eq_true_eq] at h
  exact .rk 1000 5 ⟨h.1.1.1, h.1.1.2, h.1.2, h.2⟩ (by decide) (by decide)
def kdB (d : PyData) : Bool := rkB d || (match d with
  | .dict [] => true
  | .dict [(.int 0, .int 1)] => true
  | _ => false)
theorem kdB_ok {d : PyData} (h : kdB d = true) : Kd d := by
  unfold kdB at h
  rw [Bool.or_eq_true] at h
  rcases h with h | h
  · exact rkB_ok h
  · split at h
    · exact .d0 rfl
    · exact .d1 rfl
    · cases h
theorem Kd.rep {d : PyData} (k : Kd d) : ∃ x, ∀ h, gReprX [.val d] h = some (.str x) := by
  cases k with
  | rk w k r hw hk => exact ⟨_, fun h => v_reprX rfl r (by omega) (by omega)⟩
  | d0 e => subst e; exact (gdB_ok (by decide +kernel)).rep
  | d1 e => subst e; exact (gdB_ok (by decide +kernel)).rep
theorem Kd.tup {ds : List PyData} (h : ∀ d ∈ ds, Rk 1921 1 d) (hl : ds.length ≤ 100) : Kd (.tuple ds) := .rk _ 2 (Rk.tuple h) (by omega) (by decide)
theorem Kd.lst {ds : List PyData} (h : ∀ d ∈ ds, Rk 1921 1 d) (hl : ds.length ≤ 100) : Kd (.list ds) := .rk _ 2 (Rk.list h) (by omega) (by decide)
theorem ints_nats (ws : List Nat) : ints? (natsD ws) = some (ws.map fun w : Nat => (w : Int)) := ints_map (fun w : Nat => (w : Int)) ws
theorem sIx_neg (n d : Nat) : HT.sIx n d (some (-1)) = n - 1 := by
  unfold HT.sIx
  dsimp only
  first | omega | (split <;> omega) | (unfold PySem.clampIndex; omega)
theorem cut_neg {ds : List PyData} : cutD ds none (some (-1)) = ds.take (ds.length - 1) := by
  unfold cutD
  rw [sIx_neg, HT.sIx_none, List.drop_zero, Nat.sub_zero]
theorem cut_last {ds : List PyData} : cutD ds (some (-1)) none = ds.drop (ds.length - 1) := by
  unfold cutD
  rw [sIx_neg, HT.sIx_none]
  exact List.take_of_length_le (by rw [List.length_drop]; omega)
end FL
namespace FL
open PySem PySem.Spec PyProof.Rows L2
def lookD (kvs : List (Key × PyData)) (k : Key) : Option PyData := (kvs.find? fun kv => decide (kv.1 = k)).map (·.2)
def putD (kvs : List (Key × PyData)) (k : Key) (d : PyData) : List (Key × PyData) :=
  if (kvs.any fun kv => decide (kv.1 = k)) = true then kvs.map (fun kv => if kv.1 = k then (kv.1, d) else kv) else kvs ++ [(k, d)]
def obK (o : Option Ob) : Option (List (Key × PyData)) := match o with
  | some (.dic kvs) => some kvs
  | _ => none
@[simp] theorem v_obK {kvs : List (Key × PyData)} : obK (some (.dic kvs)) = some kvs := id rfl
def dicS (s : Sl) (h : Hs) : Option (List (Key × PyData)) := match s with
  | .loc n => obK h[n]?
  | _ => none
def keyS (s : Sl) : Option Key := match s with
  | .val (.int i) => some (.inl i)
  | _ => none
/-- what stands in the heap behind a dict -/
structure DicAt (K : PySem.W.Frag) (H : Hp) (M : Ms) (a : Addr) (vs : List (Key × V)) (kvs : List (Key × PyData)) : Prop where
  at_ : H a = some (.dK vs)
  keys : vs.map (·.1) = kvs.map (·.1)
  all : RpAll K H M (vs.map (·.2)) (kvs.map (·.2))
theorem DicAt.len {K : PySem.W.Frag} {H : Hp} {M : Ms} {a : Addr} {vs : List (Key × V)} {kvs : List (Key × PyData)} (d : DicAt K H M a vs kvs) : vs.length = kvs.length := by
  have := congrArg List.length d.keys
  simpa using this
theorem look_rel {K : PySem.W.Frag} {H : Hp} {M : Ms} {k : Key} : ∀ {vs : List (Key × V)} {kvs : List (Key × PyData)}, vs.map (·.1) = kvs.map (·.1) → RpAll K H M (vs.map (·.2)) (kvs.map (·.2)) →
    match lookD kvs k with
    | some d => ∃ v, valV vs k = some v ∧ Rp K H M v d
    | none => valV vs k = none
  | [], [], _, _ => rfl
  | [], _ :: _, e, _ => by simp at e
  | _ :: _, [], e, _ => by simp at e
  | v :: vs, d :: kvs, e, r => by
    rw [List.map_cons, List.map_cons, List.cons.injEq] at e
    cases r with
    | cons h t =>
      have ih := look_rel (k := k) e.2 t
      by_cases q : d.1 = k
      · have q' : v.1 = k := e.1.trans q
        have e1 : lookD (d :: kvs) k = some d.2 := by unfold lookD; rw [List.find?_cons]; simp [q]
        have e2 : valV (v :: vs) k = some v.2 := by unfold valV; rw [List.find?_cons]; simp [q']
        rw [e1, e2]
        exact ⟨v.2, rfl, h⟩
      · have q' : ¬ v.1 = k := fun z => q (e.1.symm.trans z)
        have e1 : lookD (d :: kvs) k = lookD kvs k := by unfold lookD; rw [List.find?_cons]; simp [q]
        have e2 : valV (v :: vs) k = valV vs k := by unfold valV; rw [List.find?_cons]; simp [q']
        rw [e1, e2]
        exact ih
theorem dput_rel {K : PySem.W.Frag} {H : Hp} {M : Ms} {k : Key} {v : V} {d : PyData} (rv : Rp K H M v d) {vs : List (Key × V)} {kvs : List (Key × PyData)} (e : vs.map (·.1) = kvs.map (·.1)) (r : RpAll K H M (vs.map (·.2)) (kvs.map (·.2))) :
    (putK vs k v).map (·.1) = (putD kvs k d).map (·.1) ∧ RpAll K H M ((putK vs k v).map (·.2)) ((putD kvs k d).map (·.2)) := by
  have ea : ∀ {vs : List (Key × V)} {kvs : List (Key × PyData)}, vs.map (·.1) = kvs.map (·.1) → (vs.any fun kv => decide (kv.1 = k)) = (kvs.any fun kv => decide (kv.1 = k)) := by
    intro vs
    induction vs with
    | nil => intro kvs e; cases kvs with
      | nil => rfl
      | cons _ _ => simp at e
    | cons v vs ih =>
      intro kvs e
      cases kvs with
      | nil => simp at e
      | cons d kvs =>
        rw [List.map_cons, List.map_cons, List.cons.injEq] at e
        rw [List.any_cons, List.any_cons, ih e.2, e.1]
  unfold putK putD
  rw [ea e]
  by_cases q : (kvs.any fun kv => decide (kv.1 = k)) = true
  · rw [if_pos q, if_pos q]
    clear q
    induction vs generalizing kvs with
    | nil => cases kvs with
      | nil => exact ⟨rfl, .nil⟩
      | cons _ _ => simp at e
    | cons w vs ih =>
      cases kvs with
      | nil => simp at e
      | cons x kvs =>
        rw [List.map_cons, List.map_cons, List.cons.injEq] at e
        cases r with
        | cons h t =>
          obtain ⟨i1, i2⟩ := ih e.2 t
          by_cases q : x.1 = k
          · have q' : w.1 = k := e.1.trans q
            simp only [List.map_cons, if_pos q, if_pos q']
            exact ⟨by rw [i1, e.1], .cons rv i2⟩
          · have q' : ¬ w.1 = k := fun z => q (e.1.symm.trans z)
            simp only [List.map_cons, if_neg q, if_neg q']
            exact ⟨by rw [i1, e.1], .cons h i2⟩
  · rw [if_neg q, if_neg q, List.map_append, List.map_append, List.map_append, List.map_append, e]
    exact ⟨rfl, RpAll.append r (.cons rv .nil)⟩
theorem dic_rel {K : PySem.W.Frag} {C : Fc} {ρ : Fps} {h : Hs} {H : Hp} {s : Sl} {v : V} {kvs : List (Key × PyData)} (S : SimH K C ρ h H) (r : SlV K C ρ H v s) (e : dicS s h = some kvs) : ∃ (n : Nat) (a : Addr) (vs : List (Key × V)), s = .loc n ∧ v = .ref a ∧ ρ[n]? = some [a] ∧ h[n]? = some (.dic kvs) ∧ DicAt K H (Mo C ρ) a vs kvs := by
  unfold dicS at e
  split at e
  · rename_i n
    unfold obK at e
    split at e
    · rename_i kvs' e1
      cases e
      obtain ⟨fp, a, e2, e3, rfl⟩ := r
      obtain ⟨b, vs, rfl, h1, h2, h3⟩ := S.obj n fp _ e2 e1
      have : b = a := by simpa using e3
      subst this
      exact ⟨n, b, vs, rfl, rfl, e2, e1, h1, h2, h3⟩
    · cases e
  · cases e
theorem key_rel {K : PySem.W.Frag} {C : Fc} {ρ : Fps} {H : Hp} {s : Sl} {v : V} {k : Key} (r : SlV K C ρ H v s) (e : keyS s = some k) : v = kV k := by
  unfold keyS at e
  split at e
  · rename_i i
    cases e
    cases (show Rp K H (Mo C ρ) v (.int i) from r)
    rfl
  · cases e
theorem Po.mono {α β : Type} {K : PySem.W.Frag} {mg : Str → Option Value} {C : Fc} {Wx : WX} {σ : St} {ρ : Fps} {H : Hp} {rel : Fps → Hp → β → α → Prop} {r : Rz α} {Q Q' : β → Hp → Prop} (P : Po K mg C Wx σ ρ H rel r Q) (f : ∀ v H, Q v H → Q' v H) : Po K mg C Wx σ ρ H rel r Q' := by
  cases r with
  | ok a h => exact fun ρ' v H' x S q => f v H' (P ρ' v H' x S q)
  | err x h => exact P
  | bad => exact P
def gDIn : G2 := fun s t h => match keyS s, dicS t h with
  | some k, some kvs => some (.bool (lookD kvs k).isSome)
  | _, _ => none
def gDNotIn : G2 := fun s t h => match keyS s, dicS t h with
  | some k, some kvs => some (.bool (!(lookD kvs k).isSome))
  | _, _ => none
def gDIx : G2 := fun s t h => match dicS s h, keyS t with
  | some kvs, some k => lookD kvs k
  | _, _ => none
def gDGet : G2 := fun s t h => match dicS s h, keyS t with
  | some kvs, some k => some ((lookD kvs k).getD .none)
  | _, _ => none
theorem look_some {K : PySem.W.Frag} {H : Hp} {M : Ms} {a : Addr} {vs : List (Key × V)} {kvs : List (Key × PyData)} (d : DicAt K H M a vs kvs) (k : Key) : (valV vs k).isSome = (lookD kvs k).isSome := by
  have := look_rel (k := k) d.keys d.all
  cases q : lookD kvs k with
  | none => rw [q] at this; rw [this]; rfl
  | some x =>
    rw [q] at this
    obtain ⟨v, e, _⟩ := this
    rw [e]
    rfl
section
variable {X : Cx} {C : Fc} {Wx : WX}
theorem o_din (hu : X.A.units + 65 < cLine) : OpR X (compareOp .In) (rd2 X.K C gDIn) := by
  intro pins s σ H y x v u Q I ry rx ⟨ρ, h, s1, t1, d, S, r1, r2, e, k⟩
  unfold gDIn at e
  split at e
  · rename_i ky kvs e1 e2
    cases e
    obtain ⟨n, a, vs, rfl, rfl, _, _, D⟩ := dic_rel S r2 e2
    have ey := key_rel r1 e1
    subst ey
    cases (show u = Value.ref a from rx)
    refine d_in (by omega) I (DGet.k D.at_) ry fun s' I' => ⟨.bl (lookD kvs ky).isSome, H, I', ?_, k _ H (Ex.refl _ _ _) S (.bl _)⟩
    rw [look_some D ky]
    rfl
  · cases e
theorem o_dnotin (hu : X.A.units + 65 < cLine) : OpR X (compareOp .NotIn) (rd2 X.K C gDNotIn) := by
  intro pins s σ H y x v u Q I ry rx ⟨ρ, h, s1, t1, d, S, r1, r2, e, k⟩
  unfold gDNotIn at e
  split at e
  · rename_i ky kvs e1 e2
    cases e
    obtain ⟨n, a, vs, rfl, rfl, _, _, D⟩ := dic_rel S r2 e2
    have ey := key_rel r1 e1
    subst ey
    cases (show u = Value.ref a from rx)
    refine d_notIn (by omega) I (DGet.k D.at_) ry fun s' I' => ⟨.bl (!(lookD kvs ky).isSome), H, I', ?_, k _ H (Ex.refl _ _ _) S (.bl _)⟩
    rw [look_some D ky]
    rfl
  · cases e
theorem fe_dix {o i : Expr} {f1 f2 : Ev} {pos : Pos} (hu : X.A.units + 65 < cLine) (ho : FE X C Wx o f1) (hi : FE X C Wx i f2) (hs : NoSl i := by intro _ _; rfl) : FE X C Wx (.Subscript o i pos) (cBin gDIx f1 f2) := PE.imp (pe_dget (by omega) ho hi hs) fun σ H Q p => by
  have p2 := rd.bin p
  obtain ⟨ρ, env, h, S, E, P⟩ := p2
  refine ⟨ρ, env, h, S, E, Po.mono P fun x H1 q => ?_⟩
  obtain ⟨ρ, env, h, S, E, P⟩ := q
  refine ⟨ρ, env, h, S, E, Po.mono P fun y H2 q => ?_⟩
  obtain ⟨ρ, h, s, t, d, S, r1, r2, e, k⟩ := q
  unfold gDIx at e
  split at e
  · rename_i kvs ky e1 e2
    obtain ⟨n, a, vs, rfl, rfl, _, _, D⟩ := dic_rel S r1 e1
    have ey := key_rel r2 e2
    subst ey
    have := look_rel (k := ky) D.keys D.all
    rw [e] at this
    obtain ⟨v, ev, rv⟩ := this
    refine ⟨a, v, rfl, ?_, k v H2 (Ex.refl _ _ _) S rv⟩
    rw [← ev]
    exact DGet.k D.at_
  · cases e
def eDGet (f1 f2 : Ev) : Ev := fun env h => (f1 env h).bind fun s h => if (dicS s h).isSome = true then (f2 env h).bind fun t h => .give (gDGet s t h) h else .bad
theorem dget_core {f1 f2 : Ev} {σ : St} {H : Hp} {Q : VK} (p : rd X.K X.mg C Wx (relE X.K C) (eDGet f1 f2) σ H Q) : rd X.K X.mg C Wx (relE X.K C) f1 σ H fun x H1 => ∃ a, x = .ref a ∧ IsD H1 a ∧ rd X.K X.mg C Wx (relE X.K C) f2 σ H1 fun y H2 => ∃ o, DGet H2 a y o ∧ Q (o.getD .non) H2 := by
  refine rd.bind (f := f1) (g := fun s env h => if (dicS s h).isSome = true then (f2 env h).bind fun t h => .give (gDGet s t h) h else .bad) p fun ρ1 env h1 s x H1 S1 E1 r1 P1 => ?_
  split at P1
  · rename_i hs
    obtain ⟨kvs, ek⟩ := Option.isSome_iff_exists.mp hs
    obtain ⟨n, a, vs, rfl, rfl, _, _, D⟩ := dic_rel S1 r1 ek
    refine ⟨a, rfl, .inl ⟨vs, .inl D.at_⟩, rd.of (env := env) (h := h1) S1 E1 ?_⟩
    cases q : f2 env h1 with
    | bad => rw [q] at P1; exact P1
    | err y h2 => rw [q] at P1; exact P1
    | ok t h2 =>
      intro ρ2 y H2 x2 S2 r2
      rw [q, v_bind] at P1
      have P2 := Po.ex x2 P1
      obtain ⟨d, e, k⟩ := P2.given
      unfold gDGet at e
      split at e
      · rename_i kvs2 ky e1 e2
        cases e
        obtain ⟨n2, a2, vs2, en, ea, _, _, D2⟩ := dic_rel S2 (SlV.ex x2 r1) e1
        cases ea
        have ey := key_rel r2 e2
        subst ey
        refine ⟨valV vs2 ky, DGet.k D2.at_, ?_⟩
        have := look_rel (k := ky) D2.keys D2.all
        cases ql : lookD kvs2 ky with
        | none =>
          rw [ql] at this k
          rw [this]
          exact k _ H2 (Ex.refl _ _ _) S2 .non
        | some dd =>
          rw [ql] at this k
          obtain ⟨v, ev, rv⟩ := this
          rw [ev]
          exact k _ H2 (Ex.refl _ _ _) S2 rv
      · cases e
  · exact P1.elim
theorem fe_dget2 {o e : Expr} {f1 f2 : Ev} {apos cpos : Pos} (hu : X.A.units + 65 < cLine) (ho : FE X C Wx o f1) (he : FE X C Wx e f2) {c : Expr} (hc : PE X c (tC .non)) (m1 : attributeBase o "get" X.env (eval o X.env) = eval o X.env := by rfl) (m2 : ((backTo cpos (starEach [e, c] X.env)).all (fun x => !x.1) && (backToKw cpos (keywordEach [] X.env)).all (fun x => x.1.isSome) && decide (([e, c] : List Expr).length + ([] : List Keyword).length + (if ([] : List Keyword).isEmpty then 0 else 1) < 30)) = true := by rfl) (m3 : (apos.endLine == cpos.line) = true := by rfl) (m4 : backTo cpos (starEach [e, c] X.env) = [(false, eval e X.env), (false, eval c X.env)] := by rfl) : FE X C Wx (.Call (.Attribute o "get" apos) [e, c] [] cpos) (eDGet f1 f2) := PE.imp (pe_dget2 (by omega) ho he hc ⟨m1, m2, m3, m4⟩) fun σ H Q p => by
  obtain ⟨ρ, env, h, S, E, P⟩ := dget_core p
  refine ⟨ρ, env, h, S, E, Po.mono P fun x H1 ⟨a, ex, d, q⟩ => ⟨a, ex, d, ?_⟩⟩
  obtain ⟨ρ, env, h, S, E, P⟩ := q
  exact ⟨ρ, env, h, S, E, Po.mono P fun y H2 q => q⟩
def dputAt (s t u : Sl) (h : Hs) : Option Hs := match s, keyS t, u with
  | .loc n, some k, .val d => match obK h[n]? with
    | some kvs => if kvs.length < 16777216 then some (h.set n (.dic (putD kvs k d))) else none
    | none => none
  | _, _, _ => none
def sDPut (fo fi fe : Ev) : Sv := fun env h => (fe env h).fl env fun u h => (fo env h).fl env fun s h => (fi env h).fl env fun t h => match dputAt s t u h with
  | some h' => .next env h'
  | none => .bad
theorem fs_dput {o i e : Expr} {fo fi fe : Ev} {tpos pos : Pos} (hu : X.A.units + 65 < cLine) (ho : FE X C Wx o fo) (hi : FE X C Wx i fi) (he : FE X C Wx e fe) (hs : swapsWith e (some (.Subscript o i tpos)) pos.line X.env = pure false := by rfl) :
    FS X C Wx (.Assign [.Subscript o i tpos] e pos) (sDPut fo fi fe) := PS.imp (ps_dput (by omega) ho hi he hs) fun D σ H p => by
  refine rdS.bind (f := fe) (g := fun u env h => (fo env h).fl env fun s h => (fi env h).fl env fun t h => match dputAt s t u h with
    | some h' => (.next env h' : Fl)
    | none => .bad) p fun ρ1 env h1 u v H1 S1 E1 r1 P1 => ?_
  refine rd.of S1 E1 ?_
  have P1' : PoS X.K X.mg C Wx D ρ1 H1 ((fo env h1).fl env fun s h => (fi env h).fl env fun t h => match dputAt s t u h with
    | some h' => (.next env h' : Fl)
    | none => .bad) := P1
  cases q1 : fo env h1 with
  | bad => rw [q1] at P1'; exact P1'
  | err y h2 => rw [q1] at P1'; exact fun ρ' H' cls d s S' q => P1' ρ' σ H' cls d s.stp S' (E1.ex s) q
  | ok s h2 =>
    rw [q1] at P1'
    intro ρ2 x H2 x2 S2 r2
    refine rd.of S2 (E1.ex x2) ?_
    have P2 : PoS X.K X.mg C Wx D ρ1 H1 ((fi env h2).fl env fun t h => match dputAt s t u h with
      | some h' => (.next env h' : Fl)
      | none => .bad) := P1'
    cases q2 : fi env h2 with
    | bad => rw [q2] at P2; exact P2
    | err y h3 => rw [q2] at P2; exact fun ρ' H' cls d s S' q => P2 ρ' σ H' cls d (x2.stp.trans s.stp) S' ((E1.ex x2).ex s) q
    | ok t h3 =>
      rw [q2] at P2
      intro ρ3 y H3 x3 S3 r3
      have P3 : PoS X.K X.mg C Wx D ρ1 H1 (match dputAt s t u h3 with
        | some h' => (.next env h' : Fl)
        | none => .bad) := P2
      cases q3 : dputAt s t u h3 with
      | none => rw [q3] at P3; exact P3.elim
      | some h4 =>
        rw [q3] at P3
        unfold dputAt at q3
        split at q3
        · rename_i n k d eky
          cases qo : obK h3[n]? with
          | none => rw [qo] at q3; cases q3
          | some kvs =>
            rw [qo] at q3
            dsimp only at q3
            split at q3
            · rename_i hl
              cases q3
              obtain ⟨n', a, vs, en, rfl, e1, e2, Dc⟩ := dic_rel (s := .loc n) S3 (SlV.ex x3 r2) qo
              cases en
              have ey := key_rel r3 eky
              subst ey
              have rv : Rp X.K H3 (Mo C ρ3) v d := SlV.ex (x2.trans x3) r1
              have st : Stp (Mo C ρ3) H3 (Mo C ρ3) (upd H3 a (.dK (putK vs k v))) := ⟨keepE fun b u z nm => by
                have : b ≠ a := fun w => nm (w ▸ .inl (flat_at e1 (by simp)))
                rw [upd_ne this]; exact z, fun _ mm => .inl mm⟩
              obtain ⟨p1, p2⟩ := dput_rel (k := k) rv Dc.keys Dc.all
              have W := S3.write (ob := .dic (putD kvs k d)) (o := .dK (putK vs k v)) e1 ⟨a, _, rfl, upd_same, p1, p2.stp st⟩
              exact ⟨a, _, rfl, .inl ⟨vs, k, Dc.at_, rfl, by rw [Dc.len, sizeLine_eq]; exact hl, rfl⟩, P3 ρ3 σ _ ((x2.stp.trans x3.stp).trans W.2.stp) W.1 (((E1.ex x2).ex x3).ex W.2)⟩
            · cases q3
        · cases q3
def eDic1 (i : Nat) (d : PyData) : Ev := fun env h => match env[i]? with
  | some (some (.val (.int k))) => .ok (.loc h.length) (h ++ [.dic [(.inl k, d)]])
  | _ => .bad
theorem fe_dic1 {i : Nat} {n : Str} {c : Expr} {d : PyData} {p1 pos : Pos} {cv : V} (hcv : PE X c (tC cv)) (hr : ∀ H M, Rp X.K H M cv d)
    (hN : X.N[i]? = some n := by rfl) (hv : Vis X.env.scope n := by first | exact Or.inl rfl | exact Or.inr (Or.inl rfl) | exact Or.inr (Or.inr rfl)) (hd : (n == ("__debug__" : Str)) = false := by decide) (hcd : (n == ("__classdict__" : Str)) = false := by decide) : FE X C Wx (.Dict [some (.Name n p1)] [c] pos) (eDic1 i d) := by
  refine PE.imp (pe_disp (pps_cons (pe_var hN hv hd hcd) hcv pps_nil) rfl rfl (by simp) (by simp)) fun σ H Q p => ?_
  obtain ⟨ρ, env, h, S, E, P⟩ := p
  unfold eDic1 at P
  split at P
  · rename_i k ek
    obtain ⟨v, e1, r⟩ := E.at_ i _ ek
    cases (show Rp X.K H (Mo C ρ) v (.int k) from r)
    intro q hq
    refine ⟨.int k, e1, ?_⟩
    refine ⟨upd_same, [(.inl k, cv)], rfl, by simp, ?_⟩
    have eu : upd (upd H q (.dK [])) q (.dK (mergeK [] [(Sum.inl k, cv)])) = upd H q (.dK [(.inl k, cv)]) := by
      funext b
      unfold upd
      by_cases z : b = q <;> simp [z, mergeK, putK]
    rw [eu]
    have S' := S.push (o := .dK [(.inl k, cv)]) (ob := .dic [(.inl k, d)]) hq ⟨q, _, rfl, upd_same, rfl, .cons (hr _ _) .nil⟩
    refine P (ρ ++ [[q]]) (.ref q) _ (Ex.push hq) S' ?_
    rw [← S.len]
    exact SlV.pushed _
  · exact P.elim
end
section
variable {env : En} {h : Hs} {f1 f2 f3 : Ev} {kvs : List (Key × PyData)} {i : Nat} {k : Int} {d : PyData} {n : Nat}
@[simp] theorem v_dicS : dicS (.loc n) h = obK h[n]? := id rfl
@[simp] theorem v_keyS : keyS (.val (.int k)) = some (.inl k) := id rfl
def din? (a : Option Key) (b : Option (List (Key × PyData))) : Option PyData := match a, b with
  | some k, some kvs => some (.bool (lookD kvs k).isSome)
  | _, _ => none
@[simp] theorem v_din1 {ky : Key} : din? (some ky) (some kvs) = some (.bool (lookD kvs ky).isSome) := id rfl
@[simp] theorem v_gDIn {s t : Sl} : gDIn s t h = din? (keyS s) (dicS t h) := id rfl
@[simp] theorem v_gDNot {s t : Sl} : gDNotIn s t h = (din? (keyS s) (dicS t h)).bind fun z => match z with
  | .bool b => some (.bool (!b))
  | _ => none := by
  unfold gDNotIn din?
  cases keyS s <;> cases dicS t h <;> rfl
def dix? (b : Option (List (Key × PyData))) (a : Option Key) : Option PyData := match b, a with
  | some kvs, some k => lookD kvs k
  | _, _ => none
@[simp] theorem v_dix1 {ky : Key} : dix? (some kvs) (some ky) = lookD kvs ky := id rfl
@[simp] theorem v_gDIx {s t : Sl} : gDIx s t h = dix? (dicS s h) (keyS t) := id rfl
def dgt? (b : Option (List (Key × PyData))) (a : Option Key) : Option PyData := match b, a with
  | some kvs, some k => some ((lookD kvs k).getD .none)
  | _, _ => none
@[simp] theorem v_dgt1 {ky : Key} : dgt? (some kvs) (some ky) = some ((lookD kvs ky).getD .none) := id rfl
@[simp] theorem v_gDGet {s t : Sl} : gDGet s t h = dgt? (dicS s h) (keyS t) := id rfl
def dget? (o : Option (List (Key × PyData))) (r : Rz Sl) : Rz Sl := if o.isSome = true then r else .bad
@[simp] theorem v_dget2 {r : Rz Sl} : dget? (some kvs) r = r := id rfl
@[simp] theorem v_eDGet : eDGet f1 f2 env h = (f1 env h).bind fun s h => dget? (dicS s h) ((f2 env h).bind fun t h => .give (gDGet s t h) h) := id rfl
def put? (o : Option Hs) (env : En) : Fl := match o with
  | some h' => .next env h'
  | none => .bad
@[simp] theorem v_put1 {h' : Hs} : put? (some h') env = .next env h' := id rfl
@[simp] theorem v_sDPut : sDPut f1 f2 f3 env h = (f3 env h).fl env fun u h => (f1 env h).fl env fun s h => (f2 env h).fl env fun t h => put? (dputAt s t u h) env := by
  unfold sDPut put?
  rfl
end
end FL
namespace FL
open PySem PySem.Spec PyProof.Rows L2
def zipD : List PyData → List PyData → List PyData
  | d :: ds, e :: es => .tuple [d, e] :: zipD ds es
  | _, _ => []
theorem zipD_get : ∀ (ds es : List PyData) (i : Nat), (zipD ds es)[i]? = match ds[i]?, es[i]? with
    | some d, some e => some (.tuple [d, e])
    | _, _ => none
  | [], _, i => by simp [zipD]
  | d :: ds, [], i => by
    simp [zipD]
  | d :: ds, e :: es, 0 => by simp [zipD]
  | d :: ds, e :: es, i + 1 => by
    show (zipD ds es)[i]? = _
    rw [zipD_get ds es i]
    simp
theorem zipD_len : ∀ (ds es : List PyData), (zipD ds es).length = min ds.length es.length
  | [], _ => by simp [zipD]
  | d :: ds, [] => by simp [zipD]
  | d :: ds, e :: es => by
    show (zipD ds es).length + 1 = _
    rw [zipD_len ds es, List.length_cons, List.length_cons]
    omega
def srcZip (f : Av) : En → Hs → Rz (List PyData) := fun env h => (f env h).bind fun ss h => match ss with
  | [.val (.tuple ds), .val (.tuple es)] => .ok (zipD ds es) h
  | [.val (.list ds), .val (.list es)] => .ok (zipD ds es) h
  | _ => .bad
theorem gvs_zT {K : PySem.W.Frag} {H : Hp} {M : Ms} {a b : Addr} {xs ys : List V} {ds es : List PyData} (q : QT K H M a xs) (r : RpAll K H M xs ds) (q2 : QT K H M b ys) (r2 : RpAll K H M ys es) : Gvs K (RZ.ItzT K a b) (zipD ds es) M H where
  go := fun M' H' i d s e => by
    rw [zipD_get] at e
    split at e
    · rename_i d1 d2 z1 z2
      obtain ⟨v, ev, _⟩ := r.get z1
      obtain ⟨w, ew, _⟩ := r2.get z2
      exact ⟨xs, ys, v, w, (q.stp s).sq, (q2.stp s).sq, ev, ew⟩
    · cases e
  yld := fun M' H' i d x H'' s e y => by
    obtain ⟨T, v, w, rfl, hT, rfl, hv, hw⟩ := y
    rw [zipD_get] at e
    split at e
    · rename_i d1 d2 z1 z2
      cases e
      obtain ⟨v', ev, rv⟩ := r.get z1
      obtain ⟨w', ew, rw_⟩ := r2.get z2
      have h1 := hv xs (q.stp s).sq
      rw [ev] at h1; cases h1
      have h2 := hw ys (q2.stp s).sq
      rw [ew] at h2; cases h2
      exact .inr (.inl ⟨T, _, _, hT, rfl, rfl, rfl, .cons (rv.stp s) (.cons (rw_.stp s) .nil)⟩)
    · cases e
  stop := fun M' H' i s hl => ⟨xs, ys, (q.stp s).sq, (q2.stp s).sq, by
    rw [zipD_len] at hl
    rw [r.length, r2.length]
    omega⟩
theorem gvs_zL {K : PySem.W.Frag} {H : Hp} {M : Ms} {a b : Addr} {xs ys : List V} {ds es : List PyData} (q : QL K H M a xs) (r : RpAll K H M xs ds) (q2 : QL K H M b ys) (r2 : RpAll K H M ys es) : Gvs K (Itz K a b) (zipD ds es) M H where
  go := fun M' H' i d s e => by
    rw [zipD_get] at e
    split at e
    · rename_i d1 d2 z1 z2
      obtain ⟨v, ev, _⟩ := r.get z1
      obtain ⟨w, ew, _⟩ := r2.get z2
      exact ⟨xs, ys, v, w, (q.stp s).sq, (q2.stp s).sq, ev, ew⟩
    · cases e
  yld := fun M' H' i d x H'' s e y => by
    obtain ⟨T, v, w, rfl, hT, rfl, hv, hw⟩ := y
    rw [zipD_get] at e
    split at e
    · rename_i d1 d2 z1 z2
      cases e
      obtain ⟨v', ev, rv⟩ := r.get z1
      obtain ⟨w', ew, rw_⟩ := r2.get z2
      have h1 := hv xs (q.stp s).sq
      rw [ev] at h1; cases h1
      have h2 := hw ys (q2.stp s).sq
      rw [ew] at h2; cases h2
      exact .inr (.inl ⟨T, _, _, hT, rfl, rfl, rfl, .cons (rv.stp s) (.cons (rw_.stp s) .nil)⟩)
    · cases e
  stop := fun M' H' i s hl => ⟨xs, ys, (q.stp s).sq, (q2.stp s).sq, by
    rw [zipD_len] at hl
    rw [r.length, r2.length]
    omega⟩
section
variable {X : Cx} {C : Fc} {Wx : WX} {e e2 : Expr} {f : Av} {p pos tpos : Pos} {elts : List Expr} {kk : Nat}
theorem fi_zip2 (hg : Gl X "zip") (hm : X.mg "zip" = none) (ha : FA X C Wx [e, e2] f) (hs : starEach [e, e2] X.env = (false, eval e X.env) :: starEach [e2] X.env := by rfl) (hpl : (backTo pos (starEach [e2] X.env)).any (·.1) = false := by rfl) :
    FI X C Wx (.Tuple elts kk tpos) (.Call (.Name "zip" p) [e, e2] [] pos) (srcZip f) := PI.imp (RZ.pi_zipA hg hm ha hs hpl) fun σ H R p => by
  refine rd.bind (f := f) (g := fun ss env h => match ss with
    | [.val (.tuple ds), .val (.tuple es)] => (.ok (zipD ds es) h : Rz (List PyData))
    | [.val (.list ds), .val (.list es)] => .ok (zipD ds es) h
    | _ => .bad) p fun ρ1 env h1 ss vs H1 S1 E1 r1 P1 => ?_
  split at P1
  · rename_i ds es
    obtain ⟨v, w, rfl, rv, rw_⟩ := SlVs.two r1
    cases (show Rp X.K H1 (Mo C ρ1) v (.tuple ds) from rv) with
    | tup q1 a1 =>
      cases (show Rp X.K H1 (Mo C ρ1) w (.tuple es) from rw_) with
      | tup q2 a2 => exact ⟨_, _, _, _, rfl, .inr ⟨q1.sq, q2.sq, P1 ρ1 _ H1 (Ex.refl _ _ _) S1 (gvs_zT q1 a1 q2 a2)⟩⟩
  · rename_i ds es
    obtain ⟨v, w, rfl, rv, rw_⟩ := SlVs.two r1
    cases (show Rp X.K H1 (Mo C ρ1) v (.list ds) from rv) with
    | lst q1 a1 =>
      cases (show Rp X.K H1 (Mo C ρ1) w (.list es) from rw_) with
      | lst q2 a2 => exact ⟨_, _, _, _, rfl, .inl ⟨q1.sq, q2.sq, P1 ρ1 _ H1 (Ex.refl _ _ _) S1 (gvs_zL q1 a1 q2 a2)⟩⟩
  · exact P1.elim
end
def zip? (ss : List Sl) (h : Hs) : Rz (List PyData) := match ss with
  | [.val (.tuple ds), .val (.tuple es)] => .ok (zipD ds es) h
  | [.val (.list ds), .val (.list es)] => .ok (zipD ds es) h
  | _ => .bad
@[simp] theorem v_zipT {ds es : List PyData} {h : Hs} : zip? [.val (.tuple ds), .val (.tuple es)] h = .ok (zipD ds es) h := id rfl
@[simp] theorem v_zipL {ds es : List PyData} {h : Hs} : zip? [.val (.list ds), .val (.list es)] h = .ok (zipD ds es) h := id rfl
@[simp] theorem v_srcZip {f : Av} {env : En} {h : Hs} : srcZip f env h = (f env h).bind fun ss h => zip? ss h := id rfl
end FL
namespace FL
open PySem PySem.Spec PyProof.Rows L2
section
variable {X : Cx} {C : Fc}
def gNotX : G2 := fun s t h => match s, t with
  | .val (.bool a), .val (.bool b) => some (.bool (!(a == b)))
  | s, t => gNotN s t h
end
@[simp] theorem v_notXB {a b : Bool} {h : Hs} : gNotX (.val (.bool a)) (.val (.bool b)) h = some (.bool (!(a == b))) := id rfl
end FL
namespace FL
open PySem PySem.Spec PyProof.Rows L2
def eOrV (f g : Ev) : Ev := fun env h => (f env h).bind fun s h => match s with
  | .val .none => g env h
  | .val (.int i) => if i = 0 then g env h else .ok (.val (.int i)) h
  | _ => .bad
def orV? (s : Sl) (h : Hs) (r : Rz Sl) : Rz Sl := match s with
  | .val .none => r
  | .val (.int i) => if i = 0 then r else .ok (.val (.int i)) h
  | _ => .bad
@[simp] theorem v_orV {f g : Ev} {env : En} {h : Hs} : eOrV f g env h = (f env h).bind fun s h => orV? s h (g env h) := by
  unfold eOrV orV?
  rfl
@[simp] theorem v_orVN {h : Hs} {r : Rz Sl} : orV? (.val .none) h r = r := id rfl
@[simp] theorem v_orVI {h : Hs} {i : Int} {r : Rz Sl} : orV? (.val (.int i)) h r = if i = 0 then r else .ok (.val (.int i)) h := id rfl
end FL
namespace FL
open PySem PySem.Spec PyProof.Rows L2
def gStr : GL := fun ss _ => match ss with
  | [.val (.int i)] => if i.natAbs.log2 < 1920 then some (.str (toString i)) else none
  | _ => none
def txts? : List PyData → Option (List Str)
  | [] => some []
  | .str b :: r => (txts? r).map (b :: ·)
  | _ :: _ => none
def gJoin (sep : Str) : Sl → Hs → Option PyData := fun s h => match (litems s h).bind txts? with
  | some ys => if (ys.map (·.length)).sum + ys.length * sep.length ≤ 16777216 then some (.str (Txt.join sep ys)) else none
  | none => none
def eOrS (f g : Ev) : Ev := fun env h => (f env h).bind fun s h => match s with
  | .val (.str t) => if t.length = 0 then g env h else if t.length ≤ 16777216 then .ok (.val (.str t)) h else .bad
  | _ => .bad
def keyT (s : Sl) : Option Key := match s with
  | .val (.int i) => some (.inl i)
  | .val (.str t) => some (.inr t)
  | _ => none
def setdAt (s t u : Sl) (h : Hs) : Rz Sl := match s, keyT t, u with
  | .loc n, some k, .val d => match obK h[n]? with
    | some kvs => match lookD kvs k with
      | some d' => if kvs.length < 16777216 then .ok (.val d') h else .bad
      | none => if kvs.length < 16777216 then .ok (.val d) (h.set n (.dic (putD kvs k d))) else .bad
    | none => .bad
  | _, _, _ => .bad
def eSetd (f1 f2 f3 : Ev) : Ev := fun env h => (f1 env h).bind fun s h => if (dicS s h).isSome = true then (f2 env h).bind fun t h => (f3 env h).bind fun u h => setdAt s t u h else .bad
def eDic0 : Ev := fun _ h => .ok (.loc h.length) (h ++ [.dic []])
section
variable {env : En} {h : Hs} {f1 f2 f3 : Ev} {kvs : List (Key × PyData)} {i : Int} {d : PyData} {n : Nat} {t sep : Str}
@[simp] theorem v_gStr : gStr [.val (.int i)] h = if i.natAbs.log2 < 1920 then some (.str (toString i)) else none := id rfl
def join? (sep : Str) (o : Option (List Str)) : Option PyData := match o with
  | some ys => if (ys.map (·.length)).sum + ys.length * sep.length ≤ 16777216 then some (.str (Txt.join sep ys)) else none
  | none => none
@[simp] theorem v_gJoin {s : Sl} : gJoin sep s h = join? sep ((litems s h).bind txts?) := by
  unfold gJoin join?
  rfl
def orS? (s : Sl) (h : Hs) (r : Rz Sl) : Rz Sl := match s with
  | .val (.str t) => if t.length = 0 then r else if t.length ≤ 16777216 then .ok (.val (.str t)) h else .bad
  | _ => .bad
@[simp] theorem v_orS : eOrS f1 f2 env h = (f1 env h).bind fun s h => orS? s h (f2 env h) := by
  unfold eOrS orS?
  rfl
@[simp] theorem v_orST {r : Rz Sl} : orS? (.val (.str t)) h r = if t.length = 0 then r else if t.length ≤ 16777216 then .ok (.val (.str t)) h else .bad := id rfl
@[simp] theorem v_keyTi : keyT (.val (.int i)) = some (.inl i) := id rfl
@[simp] theorem v_keyTs : keyT (.val (.str t)) = some (.inr t) := id rfl
@[simp] theorem v_dic0 : eDic0 env h = .ok (.loc h.length) (h ++ [.dic []]) := id rfl
def setd? (o : Option (List (Key × PyData))) (r : Rz Sl) : Rz Sl := if o.isSome = true then r else .bad
@[simp] theorem v_setd2 {r : Rz Sl} : setd? (some kvs) r = r := id rfl
@[simp] theorem v_eSetd : eSetd f1 f2 f3 env h = (f1 env h).bind fun s h => setd? (dicS s h) ((f2 env h).bind fun t h => (f3 env h).bind fun u h => setdAt s t u h) := id rfl
end
end FL
namespace FL
open PySem PySem.Spec PyProof.Rows L2
def lookN (ks : List (Key × Nat)) (k : Key) : Option Nat := (ks.find? fun r => decide (r.1 = k)).map (·.2)
def dropN (ks : List (Key × Nat)) (k : Key) : List (Key × Nat) := ks.filter fun r => decide (r.1 ≠ k)
def dil? (o : Option Ob) : Option (List (List PyData) × List (Key × Nat)) := match o with
  | some (.dil dss ks) => some (dss, ks)
  | _ => none
def dilS (s : Sl) (h : Hs) : Option (List (List PyData) × List (Key × Nat)) := match s with
  | .loc n => dil? h[n]?
  | _ => none
/-- d.setdefault(k, []) -/
def setLAt (w : Nat) (s t : Sl) (h : Hs) : Rz Sl := match s, keyT t with
  | .loc n, some k => match dil? h[n]? with
    | some p => if p.2.length < 16777216 then (match lookN p.2 k with
      | some i => .ok (.inn n i) h
      | none => if w ≤ n then .ok (.inn n p.1.length) (h.set n (.dil (p.1 ++ [[]]) (p.2 ++ [(k, p.1.length)]))) else .bad) else .bad
    | none => .bad
  | _, _ => .bad
def eSetL (w : Nat) (f1 f2 : Ev) : Ev := fun env h => (f1 env h).bind fun s h => if (dilS s h).isSome = true then (f2 env h).bind fun t h => setLAt w s t h else .bad
/-- d.pop(k, []) -/
def popLAt (s t : Sl) (h : Hs) : Rz Sl := match s, keyT t with
  | .loc n, some k => match dil? h[n]? with
    | some p => (match lookN p.2 k with
      | some i => .ok (.inn n i) (h.set n (.dil p.1 (dropN p.2 k)))
      | none => .ok (.val (.list [])) h)
    | none => .bad
  | _, _ => .bad
def ePopL (f1 f2 : Ev) : Ev := fun env h => (f1 env h).bind fun s h => if (dilS s h).isSome = true then (f2 env h).bind fun t h => popLAt s t h else .bad
section
variable {env : En} {h : Hs} {f1 f2 : Ev} {dss : List (List PyData)} {ks : List (Key × Nat)} {n i w : Nat} {k c j : Int}
@[simp] theorem v_dil1 : dil? (some (.dil dss ks)) = some (dss, ks) := id rfl
@[simp] theorem v_dilS : dilS (.loc n) h = dil? h[n]? := id rfl
def bang? {α : Type} (o : Option α) (r : Rz Sl) : Rz Sl := if o.isSome = true then r else .bad
@[simp] theorem v_bang {α : Type} {x : α} {r : Rz Sl} : bang? (some x) r = r := id rfl
@[simp] theorem v_eSetL : eSetL w f1 f2 env h = (f1 env h).bind fun s h => bang? (dilS s h) ((f2 env h).bind fun t h => setLAt w s t h) := id rfl
@[simp] theorem v_ePopL : ePopL f1 f2 env h = (f1 env h).bind fun s h => bang? (dilS s h) ((f2 env h).bind fun t h => popLAt s t h) := id rfl
end
end FL
namespace FL
open PySem PySem.Spec PyProof.Rows L2
def compJ (t : Tg) (tt : Tv) (fe : Ev) (env : En) (n j : Nat) : Nat → Nat → List PyData → Hs → Rz (List PyData)
  | 0, _, _, _ => .bad
  | k + 1, i, acc, h => match inn? h n j with
    | none => .bad
    | some ds => match ds[i]? with
      | none => .ok acc h
      | some d => match t.put d env with
        | none => .bad
        | some e1 => match tt e1 h with
          | .ok true h => match fe e1 h with
            | .ok (.val x) h => if acc.length < 16777216 then compJ t tt fe env n j k (i + 1) (acc ++ [x]) h else .bad
            | _ => .bad
          | .ok false h => compJ t tt fe env n j k (i + 1) acc h
          | _ => .bad
def compSI (t : Tg) (tt : Tv) (fe : Ev) (env : En) (s : Sl) (h : Hs) : Rz (List PyData) := match s with
  | .inn n j => compJ t tt fe env n j 16777217 0 [] h
  | _ => .bad
def eCompI (fi : Ev) (t : Tg) (vs : List Nat) (tt : Tv) (fe : Ev) : Ev := fun env h => (fi env h).bind fun s h => (compSI t tt fe (wipeE env vs) s h).bind fun out h => .ok (.val (.list out)) h
section
variable {env : En} {h : Hs} {fi : Ev} {t : Tg} {vs : List Nat} {tt : Tv} {fe : Ev}
@[simp] theorem v_compIv : eCompI fi t vs tt fe env h = (fi env h).bind fun s h => (compSI t tt fe (wipeE env vs) s h).bind fun out h => .ok (.val (.list out)) h := id rfl
end
end FL
namespace FL
open PySem PySem.Spec PyProof.Rows L2 PySem.W
@[simp] theorem v_itI {n i : Nat} {h : Hs} : items (.inn n i) h = inn? h n i := id rfl
@[simp] theorem v_liI {n i : Nat} {h : Hs} : litems (.inn n i) h = inn? h n i := id rfl
def ixI? (o : Option Sl) (h : Hs) : Rz Sl := match o with
  | some u => .ok u h
  | none => .bad
@[simp] theorem v_ixIs {s : Sl} {h : Hs} : ixI? (some s) h = .ok s h := id rfl
@[simp] theorem v_eIxI {f g : Ev} {env : En} {h : Hs} : eIxI f g env h = (f env h).bind fun s h => (g env h).bind fun t h => ixI? (innAt s t h) h := by unfold eIxI ixI?; rfl
theorem v_appO {n : Nat} {h : Hs} {d : PyData} {ds : List PyData} (e : h[n]? = some (.lst ds)) (hl : ds.length < 16777216) : mAppend (.loc n) [.val d] h = some (.none, h.set n (.lst (ds ++ [d]))) := by
  unfold mAppend
  dsimp only
  rw [e]
  dsimp only
  rw [if_pos hl]
end FL
namespace FL
open PySem PySem.Spec PyProof.Rows L2 PySem.W
/-- *a, b = value -/
def sStar (i j : Nat) (f : Ev) : Sv := fun env h => (f env h).fl env fun s h => match s with
  | .val (.list ds) => match ds.getLast? with
    | some d => .next ((env.set i (some (.val (.list ds.dropLast)))).set j (some (.val d))) h
    | none => .bad
  | _ => .bad
@[simp] theorem v_star {i j : Nat} {f : Ev} {env : En} {h h1 : Hs} {ds : List PyData} {d : PyData} (e : f env h = .ok (.val (.list (ds ++ [d]))) h1) : sStar i j f env h = .next ((env.set i (some (.val (.list ds)))).set j (some (.val d))) h1 := by
  unfold sStar
  rw [e, v_fl]
  simp
end FL
namespace FL
open PySem PySem.Spec PyProof.Rows L2 PySem.W
def callAN (m : Fm) (io : List Bool) (sh : Shp) (ss ts : List Sl) (h : Hs) : Rz Sl := if ss.length = sh.1 ∧ ts.length = sh.2.1.length then callN m io (sh.2.2.map (arS (ss ++ ts))) h else .bad
def eCallAN (m : Fm) (io : List Bool) (sh : Shp) (fa fk : Av) : Ev := fun env h => (fa env h).bind fun ss h => (fk env h).bind fun ts h => callAN m io sh ss ts h
@[simp] theorem v_callAN {m : Fm} {io : List Bool} {sh : Shp} {fa fk : Av} {env : En} {h : Hs} : eCallAN m io sh fa fk env h = (fa env h).bind fun ss h => (fk env h).bind fun ts h => callAN m io sh ss ts h := id rfl
end FL
namespace FL
open PySem PySem.Spec PyProof.Rows L2 PySem.W
def ktD (ks : List (List Int)) : List (List Key × V) := ks.map fun k => (k.map Sum.inl, V.bl true)
theorem nt_dT {xs : List (List Key × V)} : NT (.dT xs) := fun _ z => nomatch z
section
variable {K : PySem.W.Frag} {mg : Str → Option Value} {C : Fc} {Wx : WX} {σ : St}
structure DMid (K : PySem.W.Frag) (C : Fc) (D : Addr) (ρ1 : Fps) (H1 : Hp) (acc : List (List Int)) (ρ : Fps) (h : Hs) (H : Hp) : Prop where
  S : SimH K (C.plus D) ρ h H
  st : Stp (Mo C ρ1) H1 (Mo (C.plus D) ρ) H
  root : ∀ (n : Nat) (fp : List Addr), ρ1[n]? = some fp → ∃ fp' : List Addr, ρ[n]? = some fp' ∧ fp <+: fp'
  at_ : H D = some (.dT (ktD acc))
theorem DMid.ex {D : Addr} {ρ1 ρ : Fps} {H1 H : Hp} {acc : List (List Int)} {h : Hs} (M : DMid K C D ρ1 H1 acc ρ h H) : Ex C ρ1 H1 ρ H :=
  ⟨⟨M.st.keepK, fun b m => M.st.new b (Mo.unplus m)⟩, M.root⟩
theorem DMid.step {D : Addr} {ρ1 ρ ρ2 : Fps} {H1 H H2 : Hp} {acc : List (List Int)} {h h2 : Hs} (M : DMid K C D ρ1 H1 acc ρ h H) (S2 : SimH K ((C.plus D).sub ρ H) ρ2 h2 H2) (x : Ex ((C.plus D).sub ρ H) ρ H ρ2 H2) :
    DMid K C D ρ1 H1 acc ρ2 h2 H2 ∧ Ex (C.plus D) ρ H ρ2 H2 := by
  have x' : Ex (C.plus D) ρ H ρ2 H2 := Ex.cong (C := (C.plus D).sub ρ H) (C' := C.plus D) rfl x
  refine ⟨⟨M.S.backW S2, M.st.trans x'.stp, fun n fp e => ?_, S2.fr M.at_ (M.S.bar D (.inr rfl)).1 nt_dT⟩, x'⟩
  obtain ⟨fp1, e1, q1⟩ := M.root n fp e
  obtain ⟨fp2, e2, q2⟩ := x'.root n fp1 e1
  exact ⟨fp2, e2, q1.trans q2⟩
/-- one item more is walked -/
theorem DMid.next {D : Addr} {ρ1 ρ : Fps} {H1 H H' H0 : Hp} {acc : List (List Int)} {h : Hs} {J : It} {ds : List PyData} {M0 : Ms} {i : Nat} {d : PyData} {x : V} (M : DMid K C D ρ1 H1 acc ρ h H) (G : Gvs K J ds M0 H0) (st : Stp M0 H0 (Mo (C.plus D) ρ) H) (e : ds[i]? = some d) (y : J.yld i H x H') :
    DMid K C D ρ1 H1 acc ρ h H' ∧ Ex (C.plus D) ρ H ρ H' ∧ Rp K H' (Mo (C.plus D) ρ) x d := by
  obtain ⟨S3, x3, r3⟩ := G.step (C := C.plus D) st M.S e y
  refine ⟨⟨S3, M.st.trans x3.stp, M.root, ?_⟩, x3, r3⟩
  rcases G.yld _ H i d x H' st e y with ⟨rfl, _⟩ | ⟨T, ws, es, hT, rfl, _⟩ | ⟨rfl, _⟩
  · exact M.at_
  · rw [upd_ne (ne_of_none M.at_ hT)]; exact M.at_
  · exact M.at_
end
end FL
namespace FL
open PySem PySem.Spec PyProof.Rows L2 PySem.W
/-- a call of a builtin whose list is the def's own -/
def eCBN (g : List Sl → Hs → Option (List PyData)) (f : Av) : Ev := fun env h => (f env h).bind fun ss h => match g ss h with
  | some ds => .ok (.loc h.length) (h ++ [.lst ds])
  | none => .bad
@[simp] theorem v_eCBN {g : List Sl → Hs → Option (List PyData)} {f : Av} {env : En} {h : Hs} : eCBN g f env h = (f env h).bind fun ss h => match g ss h with
  | some ds => .ok (.loc h.length) (h ++ [.lst ds])
  | none => .bad := id rfl
end FL
namespace FL
open PySem PySem.Spec PyProof.Rows L2 PySem.W
def ltB (a b : PyData) : Bool := alike a b && decide (a.depth ≤ 60) && !a.hasDict && !b.hasDict
def gLtX : Sl → Sl → Hs → Option PyData := fun s t h => match s, t with
  | .val (.int i), .val (.int j) => some (.bool (decide (i < j)))
  | .val (.tuple xs), .val (.tuple ys) => if ltB (.tuple xs) (.tuple ys) = true then some (.bool (dataLt (.tuple xs) (.tuple ys))) else none
  | _, _ => none
@[simp] theorem v_ltXi {i j : Int} {h : Hs} : gLtX (.val (.int i)) (.val (.int j)) h = some (.bool (decide (i < j))) := id rfl
def eTp0 : Ev := fun _ h => .ok (.loc h.length) (h ++ [.dtp [[]]])
def eTpN : Ev := fun _ h => .ok (.loc h.length) (h ++ [.dtp []])
@[simp] theorem v_tp0 {env : En} {h : Hs} : eTp0 env h = .ok (.loc h.length) (h ++ [.dtp [[]]]) := id rfl
@[simp] theorem v_tpN {env : En} {h : Hs} : eTpN env h = .ok (.loc h.length) (h ++ [.dtp []]) := id rfl
end FL
namespace FL
open PySem PySem.Spec PyProof.Rows L2
/-- what stood at two places stands there still -/
def Ks (i l : Addr) (h h' : Heap) : Prop := ∀ c, c = i ∨ c = l → ∀ o, h.get? c = some o → h'.get? c = some o
theorem Ks.same {i l b : Addr} {h h' : Heap} (y : Heap.SameBut b h h') (h1 : i ≠ b) (h2 : l ≠ b) : Ks i l h h' := fun c m o e => by
  rcases m with rfl | rfl
  · exact y.extBut _ _ h1 e
  · exact y.extBut _ _ h2 e
theorem Ks.trans {i l : Addr} {h h' h'' : Heap} (a : Ks i l h h') (b : Ks i l h' h'') : Ks i l h h'' := fun c m o e => b c m o (a c m o e)
def zipM? (ss : List Sl) (h : Hs) : Rz (List PyData) := match ss with
  | [.val (.tuple ds), .val (.list es)] => .ok (zipD ds es) h
  | _ => .bad
def srcZipM (f : Av) : En → Hs → Rz (List PyData) := fun env h => (f env h).bind fun ss h => zipM? ss h
@[simp] theorem v_zipM {ds es : List PyData} {h : Hs} : zipM? [.val (.tuple ds), .val (.list es)] h = .ok (zipD ds es) h := id rfl
@[simp] theorem v_srcZipM {f : Av} {env : En} {h : Hs} : srcZipM f env h = (f env h).bind fun ss h => zipM? ss h := id rfl
end FL
namespace FL
open PySem PySem.Spec PyProof.Rows L2
def lkE : List (G2 × Ev) → Sl → Tv
  | [], _ => fun _ h => .ok true h
  | (g, f) :: l, s => fun env h => (f env h).bind fun t h => match g s t h with
    | some (.bool true) => lkE l t env h
    | some (.bool false) => .ok false h
    | _ => .bad
def tLk (f : Ev) (l : List (G2 × Ev)) : Tv := fun env h => (f env h).bind fun s h => lkE l s env h
section
variable {env : En} {h : Hs} {f : Ev} {l : List (G2 × Ev)} {s : Sl}
def lk? (o : Option PyData) (r : Rz Bool) (h : Hs) : Rz Bool := match o with
  | some (.bool true) => r
  | some (.bool false) => .ok false h
  | _ => .bad
@[simp] theorem v_tLk : tLk f l env h = (f env h).bind fun s h => lkE l s env h := id rfl
@[simp] theorem v_lk0 : lkE [] s env h = .ok true h := id rfl
@[simp] theorem v_lk1 {g : G2} : lkE ((g, f) :: l) s env h = (f env h).bind fun t h => lk? (g s t h) (lkE l t env h) h := id rfl
@[simp] theorem v_lkB {k : Bool} {r : Rz Bool} : lk? (some (.bool k)) r h = if k = true then r else .ok false h := by cases k <;> rfl
end
@[simp] theorem call7 {m : Fm} {fr : Bool} {h : Hs} {x1 x2 x3 x4 x5 x6 x7 : PyData} {z : PyData} (e : m [x1, x2, x3, x4, x5, x6, x7] [] = .ok z []) : callF m [false, false, false, false, false, false, false] fr [.val x1, .val x2, .val x3, .val x4, .val x5, .val x6, .val x7] h = .ok (.val z) h := call_d rfl rfl e
end FL
namespace FL
open PySem PySem.Spec PyProof.Rows L2
def putT : List Tg → List Sl → En → Option En
  | [], [], env => some env
  | .nm i :: ts, s :: ss, env => putT ts ss (env.set i (some s))
  | .tp us :: ts, .val d :: ss, env => match Tg.put (.tp us) d env with
    | some e => putT ts ss e
    | none => none
  | _, _, _ => none
def parT? (ts : List Tg) (ss : List Sl) (env : En) (h : Hs) : Fl := match putT ts ss env with
  | some e => if ss.length ≤ 16777216 then .next e h else .bad
  | none => .bad
def sParT (ts : List Tg) (f : Av) : Sv := fun env h => (f env h).fl env fun ss h => parT? ts ss env h
section
variable {env : En} {h : Hs} {fa : Av} {ts : List Tg} {ss : List Sl}
@[simp] theorem v_parT : sParT ts fa env h = (fa env h).fl env fun ss h => parT? ts ss env h := id rfl
@[simp] theorem v_putT0 : putT [] [] env = some env := id rfl
@[simp] theorem v_putT1 {i : Nat} {s : Sl} : putT (.nm i :: ts) (s :: ss) env = putT ts ss (env.set i (some s)) := id rfl
end
end FL
namespace FL
open PySem PySem.Spec PyProof.Rows L2
section
variable {X : Cx} {C : Fc}
def gIsX : G2 := fun s t h => match s, t with
  | .val (.bool a), .val (.bool b) => some (.bool (decide (a = b)))
  | s, t => gIsN s t h
end
@[simp] theorem v_isXB {a b : Bool} {h : Hs} : gIsX (.val (.bool a)) (.val (.bool b)) h = some (.bool (decide (a = b))) := id rfl
end FL
namespace FL
open PySem PySem.Spec PyProof.Rows L2
def eSaidL (tup : Bool) (R : List Str) (mw : Exn → Option PyData) (fe : Ev) : Ev := fun env h => match fe env h with
  | .ok (.val d) h' => .ok (.val (.list [d])) h'
  | .err x h' => if R.contains x.cls && x.fs.isEmpty then (match mw x with
    | some d => .ok (.val (if tup then .tuple [d] else d)) h'
    | none => .bad) else .bad
  | _ => .bad
def saidL? (tup : Bool) (R : List Str) (mw : Exn → Option PyData) (r : Rz Sl) : Rz Sl := match r with
  | .ok (.val d) h' => .ok (.val (.list [d])) h'
  | .err x h' => if R.contains x.cls && x.fs.isEmpty then (match mw x with
    | some d => .ok (.val (if tup then .tuple [d] else d)) h'
    | none => .bad) else .bad
  | _ => .bad
@[simp] theorem v_saidL2 {tup : Bool} {R : List Str} {mw : Exn → Option PyData} {fe : Ev} {env : En} {h : Hs} : eSaidL tup R mw fe env h = saidL? tup R mw (fe env h) := by unfold eSaidL saidL?; rfl
end FL
namespace FL
open PySem PySem.Spec PyProof.Rows L2
theorem args_cons {f : Ev} {a : Av} {env : En} {h h' : Hs} {ss : List Sl} (e : aCons f a env h = .ok ss h') : ∃ s ts h1 h2, ss = s :: ts ∧ f env h = .ok s h1 ∧ a env h1 = .ok ts h2 := by
  have e : (f env h).bind (fun s h => (a env h).bind fun ts h => Rz.ok (s :: ts) h) = .ok ss h' := e
  cases q : f env h with
  | bad => rw [q] at e; cases e
  | err x h2 => rw [q] at e; cases e
  | ok s h1 =>
    rw [q] at e
    have e : (a env h1).bind (fun ts h => Rz.ok (s :: ts) h) = .ok ss h' := e
    cases q2 : a env h1 with
    | bad => rw [q2] at e; cases e
    | err x h2 => rw [q2] at e; cases e
    | ok ts h2 =>
      rw [q2] at e
      cases e
      exact ⟨s, ts, h1, _, rfl, rfl, q2⟩
end FL
namespace FL
open PySem PySem.Spec PyProof.Rows L2 PySem.W
def MkG (m : Nat) : Prop := m = 7 ∨ m = 31 ∨ m = 127 ∨ m = 511 ∨ m = 2047
def orb (m : Nat) : Nat → Nat → Nat → Nat
  | 0, _, acc => acc
  | n + 1, x, acc => orb m n ((x * 5 + 1) % (m + 1)) (acc ||| (1 <<< x))
theorem lcgI_shift (m : Nat) : ∀ (k x : Nat), lcgI m ((x * 5 + 1) % (m + 1)) k = lcgI m x (k + 1)
  | 0, _ => rfl
  | k + 1, x => by
    show (lcgI m ((x * 5 + 1) % (m + 1)) k * 5 + 1) % (m + 1) = _
    rw [lcgI_shift m k x]
    rfl
theorem orb_bit (m : Nat) {j : Nat} : ∀ (n x acc : Nat), (orb m n x acc).testBit j = true → acc.testBit j = true ∨ ∃ k, k < n ∧ lcgI m x k = j
  | 0, _, _, h => .inl h
  | n + 1, x, acc, h => by
    rcases orb_bit m n _ _ h with z | ⟨k, hk, e⟩
    · rw [Nat.testBit_or, Bool.or_eq_true] at z
      rcases z with z | z
      · exact .inl z
      · refine .inr ⟨0, by omega, ?_⟩
        rw [Nat.one_shiftLeft, Nat.testBit_two_pow] at z
        exact of_decide_eq_true z
    · rw [lcgI_shift] at e
      exact .inr ⟨k + 1, by omega, e⟩
theorem orb_full {m : Nat} (h : orb m (m + 1) 0 0 = 2 ^ (m + 1) - 1) {j : Nat} (hj : j ≤ m) : ∃ k, k ≤ m ∧ lcgI m 0 k = j := by
  have t : (orb m (m + 1) 0 0).testBit j = true := by
    rw [h, Nat.testBit_two_pow_sub_one]
    exact decide_eq_true (by omega)
  rcases orb_bit m _ _ _ t with z | ⟨k, hk, e⟩
  · simp at z
  · exact ⟨k, by omega, e⟩
theorem mk_orb {m : Nat} (h : MkG m) : orb m (m + 1) 0 0 = 2 ^ (m + 1) - 1 := by
  rcases h with rfl | rfl | rfl | rfl | rfl <;> decide +kernel
theorem mk_round {m : Nat} (h : MkG m) : lcgI m 0 (m + 1) = 0 := by
  rcases h with rfl | rfl | rfl | rfl | rfl <;> decide +kernel
theorem lcgI_plus (m x : Nat) (a : Nat) : ∀ k, lcgI m (lcgI m x a) k = lcgI m x (a + k)
  | 0 => rfl
  | k + 1 => by
    show (lcgI m (lcgI m x a) k * 5 + 1) % (m + 1) = _
    rw [lcgI_plus m x a k]
    rfl
/-- from wherever a way begins, each slot is come to -/
theorem mk_meet {m i j : Nat} (h : MkG m) (hi : i ≤ m) (hj : j ≤ m) : ∃ k, k ≤ m ∧ lcgI m i k = j := by
  obtain ⟨a, ha, ea⟩ := orb_full (mk_orb h) hi
  obtain ⟨b, hb, eb⟩ := orb_full (mk_orb h) hj
  by_cases c : a ≤ b
  · refine ⟨b - a, by omega, ?_⟩
    rw [← ea, lcgI_plus, Nat.add_sub_cancel' c, eb]
  · refine ⟨m + 1 + b - a, by omega, ?_⟩
    have q := lcgI_plus m 0 (m + 1) b
    rw [mk_round h, eb] at q
    rw [← ea, lcgI_plus, show a + (m + 1 + b - a) = m + 1 + b by omega, ← q]
theorem run_meet {m : Nat} (hm : MkG m) (h : Int) {j : Nat} (hj : j ≤ m) : ∃ n, n ≤ m + 12 ∧ runI m (SetTable.bits h) n = j := by
  obtain ⟨k, hk, e⟩ := mk_meet hm (runI_le m (SetTable.bits h) 12) hj
  refine ⟨12 + k, by omega, ?_⟩
  rw [runI_tail (bits_lt h), e]
theorem way_meet {m : Nat} (hm : MkG m) (h : Int) {j : Nat} (hj : j ≤ m) : ∃ k, k < 10 * SetTable.turns m ∧ way m h k = j := by
  obtain ⟨n, hn, e⟩ := run_meet hm h hj
  obtain ⟨k, hk, e2⟩ := run_nth m (SetTable.bits h) n
  refine ⟨k, by unfold SetTable.turns; omega, ?_⟩
  show (nth m _ k).j = j
  rw [e2, ← e]
  rfl
/-- a table in which what was put is found again -/
structure Tb (t : SetTable) (hs : List Int) : Prop where
  up : Ris t.place.toList
  nod : t.dummies = #[]
  len : t.place.toList.length = hs.length
  msk : MkG t.mask
  in_ : ∀ x ∈ t.place.toList, x ≤ t.mask
  met : ∀ (i : Nat) (h : Int) (j : Nat), hs[i]? = some h → t.place.toList[i]? = some j → ∃ k, way t.mask h k = j ∧ ∀ c, c < k → way t.mask h c ∈ t.place.toList
theorem Tb.room {t : SetTable} {hs : List Int} (T : Tb t hs) (hl : hs.length ≤ t.mask) (h : Int) : ∃ K, K < 10 * SetTable.turns t.mask ∧ way t.mask h K ∉ t.place.toList ∧ ∀ k, k < K → way t.mask h k ∈ t.place.toList := by
  have short : t.place.toList.length < t.mask + 1 := by rw [T.len]; omega
  obtain ⟨j, hj, out⟩ := st_missing _ _ short
  obtain ⟨k, hk, e⟩ := way_meet T.msk h (Nat.le_of_lt_succ hj)
  obtain ⟨K, h1, h2, h3⟩ := st_least (p := fun k => way t.mask h k ∉ t.place.toList) k (e ▸ out)
  exact ⟨K, by omega, h2, fun c hc => Classical.not_not.mp (h3 c hc)⟩
end FL
namespace FL
open PySem PySem.Spec PyProof.Rows L2 PySem.W
section
variable {P : Program} {w : World} {A : Around} {E : Value → Shared → Prop} {s : Shared}
def ClsAt (P : Program) (w : World) (n : Nat) (s : Shared) (v : Value) : Prop := ∀ (A : Around) (E : Value → Shared → Prop) (Q : Bool → Shared → Prop), Q false s → wpAny (model P w) A (ofAClassStatement n v) Q E s
def HbvAt (P : Program) (w : World) (n : Nat) (s : Shared) (v : Value) : Prop := ∀ (A : Around) (E : Value → Shared → Prop) (Q : Bool → Shared → Prop), (∀ b, Q b s) → wpAny (model P w) A (hashByValue n v) Q E s
theorem ClsAt.tup {n : Nat} {a : Addr} {o : Obj} {vs : Array Value} {m : Nat} (ho : s.heap.get? a = some o) (hc : o.cls = .type "tuple") (hd : o.data = .seq vs m) (hq : ∀ v ∈ vs.toList, ClsAt P w n s v) : ClsAt P w (n + 1) s (.ref a) := fun A E Q h => by
  have ty : s.TypeIs (.ref a) "tuple" := ⟨o, ho, hc⟩
  have yes : (("tuple" : String) == "tuple") = true := rfl
  unfold ofAClassStatement
  refine wpAny_bind (wpAny_typeOf ty ?_)
  simp only [yes, if_true, Bool.not_true, Bool.false_eq_true, if_false]
  refine wpAny_bind (wpAny_pure ?_)
  simp only [Bool.not_true, Bool.false_eq_true, if_false]
  show wpAny _ _ (seqItems? (.ref a) >>= _) _ _ s
  refine wpAny_bind (wpAny_seqItems ho hd ?_)
  dsimp only
  refine wpAny_bind ?_
  show wpAny _ _ (forIn vs _ _) _ _ s
  rw [← Array.forIn_toList]
  refine wpAny_forIn_list _ (fun rest r z => r.1 = none ∧ z = s ∧ ∀ v ∈ rest, ClsAt P w n s v) _ (fun v rest r z hz => ?_) (fun r z hz => ?_) _ _ ⟨rfl, rfl, hq⟩
  · obtain ⟨e, rfl, all⟩ := hz
    refine wpAny_bind (all v List.mem_cons_self _ _ _ ?_)
    simp only [Bool.false_eq_true, if_false]
    exact wpAny_pure ⟨rfl, rfl, fun u m => all u (List.mem_cons_of_mem _ m)⟩
  · obtain ⟨r1, r2⟩ := r
    obtain ⟨e, rfl, _⟩ := hz
    cases e
    exact wpAny_pure h
theorem HbvAt.tup {n : Nat} {a : Addr} {o : Obj} {vs : Array Value} {m : Nat} (ho : s.heap.get? a = some o) (hc : o.cls = .type "tuple") (hd : o.data = .seq vs m) (hq : ∀ v ∈ vs.toList, HbvAt P w n s v) : HbvAt P w (n + 1) s (.ref a) := fun A E Q h => by
  have ty : s.TypeIs (.ref a) "tuple" := ⟨o, ho, hc⟩
  unfold hashByValue
  refine wpAny_bind (wpAny_specialOf ty F.slot_tuple_hash.lookup ?_)
  show wpAny _ _ (seqItems? (.ref a) >>= _) _ _ s
  refine wpAny_bind (wpAny_seqItems ho hd (wpAny_bind ?_))
  show wpAny _ _ (forIn vs _ _) _ _ s
  rw [← Array.forIn_toList]
  refine wpAny_forIn_list _ (fun rest r z => r.1 = none ∧ z = s ∧ ∀ v ∈ rest, HbvAt P w n s v) _ (fun v rest r z hz => ?_) (fun r z hz => ?_) _ _ ⟨rfl, rfl, hq⟩
  · obtain ⟨e, rfl, all⟩ := hz
    refine wpAny_bind (all v List.mem_cons_self _ _ _ fun b => ?_)
    cases b with
    | true =>
      simp only [Bool.not_true, Bool.false_eq_true, if_false]
      exact wpAny_pure ⟨rfl, rfl, fun u m => all u (List.mem_cons_of_mem _ m)⟩
    | false =>
      simp only [Bool.not_false, if_true]
      exact wpAny_pure (wpAny_pure (h false))
  · obtain ⟨r1, r2⟩ := r
    obtain ⟨e, rfl, _⟩ := hz
    cases e
    exact wpAny_pure (h true)
/-- the tuple at b is the key k -/
abbrev KeyAt (P : Program) (w : World) (h : Heap) (k : NestedKey) (b : Addr) : Prop := (nestedKind P w).is h k b
abbrev khash (w : World) (k : NestedKey) : Int := k.hash w
end
end FL
namespace FL
open PySem PySem.Spec PyProof.Rows L2 PySem.W
abbrev entK (w : World) (p : Addr × NestedKey) : Int × Value := (khash w p.2, Value.ref p.1)
structure SetG (P : Program) (w : World) (h : Heap) (a : Addr) (L : List (Addr × NestedKey)) (es : Array (Int × Value)) (ep : Nat) (t : SetTable) : Prop where
  ob : ∃ o, h.get? a = some o ∧ o.ExactSet ∧ o.data = .set es ep t
  rows : es.toList = L.map (entK w)
  tab : Tb t (L.map fun p => khash w p.2)
  nd : (L.map (·.2)).Nodup
  key : ∀ p ∈ L, KeyAt P w h p.2 p.1
  led : w.params.followText "set-order" = true ∨ t.led = true
  room : L.length * 5 < t.mask * 3
  few : L.length ≤ 1000
end FL
namespace FL
open PySem PySem.Spec PyProof.Rows L2 PySem.W
section
variable {P : Program} {w : World} {A : Around} {E : Value → Shared → Prop} {s : Shared}
theorem SetG.keep {h h' : Heap} {a : Addr} {L : List (Addr × NestedKey)} {es : Array (Int × Value)} {ep : Nat} {t : SetTable} (R : SetG P w h a L es ep t) (ha : ∀ o, h.get? a = some o → h'.get? a = some o) (hk : ∀ p ∈ L, KeyAt P w h' p.2 p.1) : SetG P w h' a L es ep t := by
  obtain ⟨o, ho, r⟩ := R.ob
  exact ⟨⟨o, ha o ho, r⟩, R.rows, R.tab, R.nd, hk, R.led, R.room, R.few⟩
end
end FL
namespace FL
open PySem PySem.Spec PyProof.Rows L2 PySem.W
mutual
def keyD : PyData → Option NestedKey
  | .none => some .none
  | .int i => some (.num i)
  | .str x => some (.text x)
  | .tuple ds => (keysD ds).map .tup
  | .bool _ | .list _ | .dict _ => none
def keysD : List PyData → Option (List NestedKey)
  | [] => some []
  | d :: ds => (keyD d).bind fun k => (keysD ds).map (k :: ·)
end
def kd (d : PyData) : NestedKey := (keyD d).getD .none
/-- each once -/
def ddp : List PyData → List PyData
  | [] => []
  | d :: ds => if (ddp ds).any (fun e => decide (kd e = kd d)) = true then ddp ds else d :: ddp ds
def kdOk (ds : List PyData) : Bool := ds.all fun d => (keyD d).isSome
end FL
namespace FL
open PySem PySem.Spec PyProof.Rows L2 PySem.W
def isTp : PyData → Bool
  | .tuple _ => true
  | _ => false
def setB (ds : List PyData) : Bool := kdOk ds && ds.all isTp && (ds.all fun d => decide ((kd d).depth ≤ 8)) && (ds.all fun d => !d.hasDict) && decide (ds.length ≤ 1000)
def itemsT (s : Sl) (h : Hs) : Option (List PyData) := match s with
  | .val (.tuple ds) => some ds
  | s => litems s h
def lst? (o : Option (List PyData)) : Option PyData := match o with
  | some ds => if setB ds = true then some (.int (ddp ds).length) else none
  | none => none
def gLenSetT : Sl → Hs → Option PyData := fun s h => lst? (itemsT s h)
end FL
namespace FL
open PySem PySem.Spec PyProof.Rows L2 PySem.W
theorem Out.if_t {c : Tv} {p q : Sv} {env : En} {h h1 : Hs} {N : En → Hs → Prop} {R : Sl → Hs → Prop} (e : c env h = .ok true h1) (x : Out (p env h1) N R) : Out (sIf c p q env h) N R := by
  rw [v_sif, e]
  exact x
def c2L (t0 : Tg) (src1 : En → Hs → Rz (List PyData)) (t1 : Tg) (vs1 : List Nat) (fe : Ev) (env : En) : List PyData → List PyData → Hs → Rz (List PyData)
  | [], acc, h => .ok acc h
  | d :: ds, acc, h => match t0.put d env with
    | none => .bad
    | some e0 => match src1 e0 h with
      | .ok ds1 h => match compL t1 tTrue fe (wipeE e0 vs1) ds1 acc h with
        | .ok acc h => c2L t0 src1 t1 vs1 fe env ds acc h
        | _ => .bad
      | _ => .bad
def eComp2 (src0 : En → Hs → Rz (List PyData)) (t0 : Tg) (vs : List Nat) (src1 : En → Hs → Rz (List PyData)) (t1 : Tg) (vs1 : List Nat) (fe : Ev) : Ev := fun env h => (src0 env h).bind fun ds h => (c2L t0 src1 t1 vs1 fe (wipeE env vs) ds [] h).bind fun out h => .ok (.val (.list out)) h
section
variable {K : PySem.W.Frag} {mg : Str → Option Value} {C : Fc} {Wx : WX} {σ : St}
structure LMid (K : PySem.W.Frag) (C : Fc) (D : Addr) (ρ1 : Fps) (H1 : Hp) (acc : List PyData) (ρ : Fps) (h : Hs) (H : Hp) (av : List V) : Prop where
  S : SimH K (C.plus D) ρ h H
  st : Stp (Mo C ρ1) H1 (Mo (C.plus D) ρ) H
  root : ∀ (n : Nat) (fp : List Addr), ρ1[n]? = some fp → ∃ fp' : List Addr, ρ[n]? = some fp' ∧ fp <+: fp'
  at_ : H D = some (.lst av)
  all : RpAll K H (Mo (C.plus D) ρ) av acc
theorem LMid.ex {D : Addr} {ρ1 ρ : Fps} {H1 H : Hp} {acc : List PyData} {h : Hs} {av : List V} (M : LMid K C D ρ1 H1 acc ρ h H av) : Ex C ρ1 H1 ρ H :=
  ⟨⟨M.st.keepK, fun b m => M.st.new b (Mo.unplus m)⟩, M.root⟩
theorem LMid.step {D : Addr} {ρ1 ρ ρ2 : Fps} {H1 H H2 : Hp} {acc : List PyData} {h h2 : Hs} {av : List V} (M : LMid K C D ρ1 H1 acc ρ h H av) (S2 : SimH K ((C.plus D).sub ρ H) ρ2 h2 H2) (x : Ex ((C.plus D).sub ρ H) ρ H ρ2 H2) :
    LMid K C D ρ1 H1 acc ρ2 h2 H2 av ∧ Ex (C.plus D) ρ H ρ2 H2 := by
  have x' : Ex (C.plus D) ρ H ρ2 H2 := Ex.cong (C := (C.plus D).sub ρ H) (C' := C.plus D) rfl x
  refine ⟨⟨M.S.backW S2, M.st.trans x'.stp, fun n fp e => ?_, S2.fr M.at_ (M.S.bar D (.inr rfl)).1 nt_lst, M.all.stp x'.stp⟩, x'⟩
  obtain ⟨fp1, e1, q1⟩ := M.root n fp e
  obtain ⟨fp2, e2, q2⟩ := x'.root n fp1 e1
  exact ⟨fp2, e2, q1.trans q2⟩
theorem LMid.next {D : Addr} {ρ1 ρ : Fps} {H1 H H' H0 : Hp} {acc : List PyData} {h : Hs} {av : List V} {J : It} {ds : List PyData} {M0 : Ms} {i : Nat} {d : PyData} {x : V} (M : LMid K C D ρ1 H1 acc ρ h H av) (G : Gvs K J ds M0 H0) (st : Stp M0 H0 (Mo (C.plus D) ρ) H) (e : ds[i]? = some d) (y : J.yld i H x H') :
    LMid K C D ρ1 H1 acc ρ h H' av ∧ Ex (C.plus D) ρ H ρ H' ∧ Rp K H' (Mo (C.plus D) ρ) x d := by
  obtain ⟨S3, x3, r3⟩ := G.step (C := C.plus D) st M.S e y
  refine ⟨⟨S3, M.st.trans x3.stp, M.root, ?_, M.all.stp x3.stp⟩, x3, r3⟩
  rcases G.yld _ H i d x H' st e y with ⟨rfl, _⟩ | ⟨T, ws, es, hT, rfl, _⟩ | ⟨rfl, _⟩
  · exact M.at_
  · rw [upd_ne (ne_of_none M.at_ hT)]; exact M.at_
  · exact M.at_
end
@[simp] theorem v_comp2 {src0 src1 : En → Hs → Rz (List PyData)} {t0 t1 : Tg} {vs vs1 : List Nat} {fe : Ev} {env : En} {h : Hs} : eComp2 src0 t0 vs src1 t1 vs1 fe env h = (src0 env h).bind fun ds h => (c2L t0 src1 t1 vs1 fe (wipeE env vs) ds [] h).bind fun out h => .ok (.val (.list out)) h := id rfl
end FL
namespace FL
open PySem PySem.Spec PyProof.Rows L2 PySem.W
def gLenSetB : Sl → Hs → Option PyData := fun s h => match gLenSet s h with
  | some d => some d
  | none => gLenSetT s h
theorem v_lenSetBi {s : Sl} {h : Hs} {d : PyData} (e : gLenSet s h = some d) : gLenSetB s h = some d := by unfold gLenSetB; rw [e]
@[simp] theorem v_lenSetBn {ws : List Nat} {h : Hs} (hl : ws.length ≤ 4000) : gLenSetB (.val (.list (natsD ws))) h = some (.int ((ddI (ws.map fun w : Nat => (w : Int))).length : Nat)) := by
  refine v_lenSetBi ?_
  rw [v_lenSet, v_liL]
  show ((ints? (natsD ws)).bind _) = _
  rw [ints_nats]
  show (if (ws.map fun w : Nat => (w : Int)).length ≤ 4000 then _ else _) = _
  rw [List.length_map, if_pos hl]
end FL
namespace FL
open PySem PySem.Spec PyProof.Rows L2
def srcEnS (k : Nat) (f : Av) : En → Hs → Rz (List PyData) := fun env h => (f env h).bind fun ss h => match ss with
  | [.val (.list ds)] => .ok (enumD k ds) h
  | _ => .bad
section
variable {X : Cx} {C : Fc} {Wx : WX}
def gLenS : GL := fun ss _ => match ss with
  | [.val (.str z)] => if z.length ≤ 16777216 then some (.int z.length) else none
  | _ => none
def gIntS : GL := fun ss _ => match ss with
  | [.val (.str z)] => if z.length ≤ 640 then (PySem.intText? z).map .int else none
  | _ => none
def sgn (c : Nat) : PyData := .str ⟨#[c]⟩
def srcStr (f : Ev) : En → Hs → Rz (List PyData) := fun env h => (f env h).bind fun s h => match s with
  | .val (.str z) => .ok (z.cps.toList.map sgn) h
  | _ => .bad
end
end FL
namespace FL
open PySem PySem.Spec PyProof.Rows L2
def sgn? (s : Sl) : Option Nat := match s with
  | .val (.str z) => match z.cps.toList with
    | [c] => some c
    | _ => none
  | _ => none
def txt? (s : Sl) : Option Str := match s with
  | .val (.str z) => some z
  | _ => none
def gInS : G2 := fun s t _ => match sgn? s, txt? t with
  | some c, some z => some (.bool (decide (c ∈ z.cps.toList)))
  | _, _ => none
def gNotInS : G2 := fun s t _ => match sgn? s, txt? t with
  | some c, some z => some (.bool (!decide (c ∈ z.cps.toList)))
  | _, _ => none
def gCatS : G2 := fun s t _ => match txt? s, txt? t with
  | some a, some b => if a.length + b.length ≤ 16777216 then some (.str (a ++ b)) else none
  | _, _ => none
def gIxS : G2 := fun s t _ => match txt? s, t with
  | some z, .val (.int i) => if z.length ≤ 16777216 then (atI z.cps.toList i).map sgn else none
  | _, _ => none
def gSplit (sep : Str) : Sl → Hs → Option PyData := fun s _ => match txt? s with
  | some z => if z.length ≤ 16000000 then some (.list ((Txt.split z sep).map .str)) else none
  | none => none
@[simp] theorem v_txt {z : Str} : txt? (.val (.str z)) = some z := id rfl
@[simp] theorem v_lenS {z : Str} {h : Hs} : gLenS [.val (.str z)] h = if z.length ≤ 16777216 then some (.int z.length) else none := id rfl
@[simp] theorem v_intS {z : Str} {h : Hs} : gIntS [.val (.str z)] h = if z.length ≤ 640 then (PySem.intText? z).map .int else none := id rfl
@[simp] theorem v_catS {a b : Str} {h : Hs} : gCatS (.val (.str a)) (.val (.str b)) h = if a.length + b.length ≤ 16777216 then some (.str (a ++ b)) else none := id rfl
@[simp] theorem v_split {sep z : Str} {h : Hs} : gSplit sep (.val (.str z)) h = if z.length ≤ 16000000 then some (.list ((Txt.split z sep).map .str)) else none := id rfl
@[simp] theorem v_inSg {c : Nat} {z : Str} {h : Hs} : gInS (.val (sgn c)) (.val (.str z)) h = some (.bool (decide (c ∈ z.cps.toList))) := id rfl
@[simp] theorem v_notInSg {c : Nat} {z : Str} {h : Hs} : gNotInS (.val (sgn c)) (.val (.str z)) h = some (.bool (!decide (c ∈ z.cps.toList))) := id rfl
@[simp] theorem v_ixS {z : Str} {i : Int} {h : Hs} : gIxS (.val (.str z)) (.val (.int i)) h = if z.length ≤ 16777216 then (atI z.cps.toList i).map sgn else none := id rfl
@[simp] theorem v_srcStr {f : Ev} {env : En} {h : Hs} : srcStr f env h = (f env h).bind fun s h => match s with
  | .val (.str z) => .ok (z.cps.toList.map sgn) h
  | _ => .bad := id rfl
@[simp] theorem v_srcEnS {k : Nat} {f : Av} {env : En} {h : Hs} : srcEnS k f env h = (f env h).bind fun ss h => match ss with
  | [.val (.list ds)] => .ok (enumD k ds) h
  | _ => .bad := id rfl
end FL
namespace FL
open PySem PySem.Spec PyProof.Rows L2 PySem.W
def sStarR (i j : Nat) (f : Ev) : Sv := fun env h => (f env h).fl env fun s h => match s with
  | .val (.list (d :: ds)) => .next ((env.set i (some (.val d))).set j (some (.val (.list ds)))) h
  | _ => .bad
@[simp] theorem v_starR {i j : Nat} {f : Ev} {env : En} {h h1 : Hs} {ds : List PyData} {d : PyData} (e : f env h = .ok (.val (.list (d :: ds))) h1) : sStarR i j f env h = .next ((env.set i (some (.val d))).set j (some (.val (.list ds)))) h1 := by
  unfold sStarR
  rw [e, v_fl]
end FL
namespace FL
open PySem PySem.Spec PyProof.Rows L2 PySem.W
def lookQ (kvs : List (List Int × PyData)) (k : List Int) : Option PyData := (kvs.find? fun p => decide (p.1 = k)).map (·.2)
def obQ (o : Option Ob) : Option (List (List Int × PyData)) := match o with
  | some (.dtq kvs) => some kvs
  | _ => none
@[simp] theorem v_obQ {kvs : List (List Int × PyData)} : obQ (some (.dtq kvs)) = some kvs := id rfl
def dqS (s : Sl) (h : Hs) : Option (List (List Int × PyData)) := match s with
  | .loc n => obQ h[n]?
  | _ => none
@[simp] theorem v_dqS {n : Nat} {h : Hs} : dqS (.loc n) h = obQ h[n]? := id rfl
def eTqN : Ev := fun _ h => .ok (.loc h.length) (h ++ [.dtq []])
@[simp] theorem v_tqN {env : En} {h : Hs} : eTqN env h = .ok (.loc h.length) (h ++ [.dtq []]) := id rfl
section
variable {X : Cx} {C : Fc} {Wx : WX}
def keyQ (s : Sl) : Option (List Int) := match s with
  | .val (.tuple ds) => ints? ds
  | _ => none
def gDQIx : G2 := fun s t h => match dqS s h, keyQ t with
  | some kvs, some k => lookQ kvs k
  | _, _ => none
end
@[simp] theorem v_dqix {s t : Sl} {h : Hs} {kvs : List (List Int × PyData)} {k : List Int} (e1 : dqS s h = some kvs) (e2 : keyQ t = some k) : gDQIx s t h = lookQ kvs k := by unfold gDQIx; rw [e1, e2]
end FL
namespace FL
open PySem PySem.Spec PyProof.Rows L2
/-- raise x(e): e a whole number, kept in f -/
def sRaiseF (x f : Str) (fe : Ev) : Sv := fun env h => (fe env h).fl env fun s h => match s with
  | .val (.int i) => .err ⟨x, [(f, .int i)]⟩ env h
  | _ => .bad
@[simp] theorem v_raiseF {x f : Str} {fe : Ev} {env : En} {h : Hs} : sRaiseF x f fe env h = (fe env h).fl env fun s h => match s with
  | .val (.int i) => .err ⟨x, [(f, .int i)]⟩ env h
  | _ => .bad := id rfl
end FL
namespace PySem.W
open PySem PySem.Spec PySem.Calls PyProof.Rows
end PySem.W
namespace FL
open PySem PySem.Spec PyProof.Rows L2
def intsF : List (Str × PyData) → Option (List (Str × Int))
  | [] => some []
  | (n, .int i) :: r => (intsF r).map ((n, i) :: ·)
  | _ => none
theorem intsF_is : ∀ {fs : List (Str × PyData)} {is : List (Str × Int)}, intsF fs = some is → fs = is.map fun p => (p.1, PyData.int p.2)
  | [], _, e => by cases e; rfl
  | (n, d) :: r, is, e => by
    cases d with
    | int i =>
      obtain ⟨is', e1, rfl⟩ := Option.map_eq_some_iff.mp (show (intsF r).map ((n, i) :: ·) = some is from e)
      rw [intsF_is e1]
      rfl
    | _ => cases (show (none : Option (List (Str × Int))) = some is from e)
/-- the fields of an exception: none, or whole numbers -/
def XfI (H : Hp) (x : Exn) (dd : Option Addr) : Prop := (x.fs = [] ∧ dd = none) ∨ ∃ (da : Addr) (is : List (Str × Int)), dd = some da ∧ x.fs = is.map (fun p => (p.1, PyData.int p.2)) ∧ H da = some (.xd (is.map fun p => (p.1, V.int p.2)))
theorem XfI.keep {H H1 : Hp} {x : Exn} {dd : Option Addr} (k : KeepA H H1) (h : XfI H x dd) : XfI H1 x dd := by
  rcases h with h | ⟨da, is, e1, e2, e3⟩
  · exact .inl h
  · obtain ⟨o', e4, kk⟩ := k da _ e3
    exact .inr ⟨da, is, e1, e2, by rw [e4, kk.nt fun _ z => nomatch z]⟩
theorem rpAll_ints {K : PySem.W.Frag} {H : Hp} {M : Ms} : ∀ {vs : List (Str × V)} {is : List (Str × Int)}, vs.map (·.1) = is.map (·.1) → RpAll K H M (vs.map (·.2)) (is.map fun p => PyData.int p.2) → vs = is.map fun p => (p.1, V.int p.2)
  | [], [], _, _ => rfl
  | [], _ :: _, e, _ => by cases e
  | _ :: _, [], e, _ => by cases e
  | (n, v) :: vs, (m, i) :: is, e, r => by
    have e' : n :: vs.map (·.1) = m :: is.map (·.1) := e
    obtain ⟨rfl, e2⟩ := List.cons.inj e'
    cases r with
    | cons r1 r2 =>
      rw [rpAll_ints e2 r2]
      cases (show Rp K H M v (.int i) from r1)
      rfl
theorem XfI.of {K : PySem.W.Frag} {mg : Str → Option Value} {H : Hp} {M : Ms} {x : Exn} {cls : Value} {dd : Option Addr} {is : List (Str × Int)} (h : XnOk K mg H M x cls dd) (e : intsF x.fs = some is) : XfI H x dd := by
  rcases h.2 with h | ⟨h1, da, vs, h2, h3, h4, h5⟩
  · exact .inl h
  · have e1 := intsF_is e
    refine .inr ⟨da, is, h2, e1, ?_⟩
    rw [e1, List.map_map] at h4 h5
    rw [h3, rpAll_ints h4 h5]
/-- the exception that the context holds -/
structure HeldF (X : Cx) (C : Fc) (p : Addr × Obj) (x : Exn) (D : Addr) (dd : Option Addr) : Prop where
  pin : p ∈ X.pn
  z : Zc (.ref D) dd p.2
  f : ∃ vs, p.2.data = .fields vs
  exc : C.exc = some (p.1, x)
  cls : ExcC X.K D
  fx : XfI C.H0 x dd
  w : C.W = []
def eFldE (i : Nat) (f : Str) : Ev := fun env h => match env[i]? with
  | some (some (.exn x)) => (match x.fs.lookup f with
    | some d => .ok (.val d) h
    | none => .bad)
  | _ => .bad
section
variable {X : Cx} {C : Fc} {Wx : WX}
theorem HeldF.now {p : Addr × Obj} {x : Exn} {D : Addr} {dd : Option Addr} {ρ : Fps} {h : Hs} {H : Hp} (hh : HeldF X C p x D dd) (S : SimH X.K C ρ h H) : XfI H x dd := by
  rcases hh.fx with z | ⟨da, is, e1, e2, e3⟩
  · exact .inl z
  · obtain ⟨o', e4, kk⟩ := S.frK da _ e3 (by rw [hh.w]; simp)
    exact .inr ⟨da, is, e1, e2, by rw [e4, kk.nt fun _ z => nomatch z]⟩
theorem HeldF.dict {p : Addr × Obj} {x : Exn} {D : Addr} {dd : Option Addr} {ρ : Fps} {h : Hs} {H : Hp} (hh : HeldF X C p x D dd) (S : SimH X.K C ρ h H) : dd = none ∨ ∃ da vs, dd = some da ∧ H da = some (.xd vs) := by
  rcases hh.now S with z | ⟨da, is, e1, e2, e3⟩
  · exact .inl z.2
  · exact .inr ⟨da, _, e1, e3⟩
end
end FL
namespace FL
open PySem PySem.Spec PyProof.Rows L2
@[simp] theorem v_fldE {i : Nat} {f : Str} {env : En} {h : Hs} : eFldE i f env h = match env[i]? with
  | some (some (.exn x)) => (match x.fs.lookup f with
    | some d => .ok (.val d) h
    | none => .bad)
  | _ => .bad := id rfl
end FL
namespace FL
open PySem PySem.Spec PyProof.Rows L2 PySem.W
def mulS (x : Str) (n : Nat) : Str := ⟨(List.replicate n x.cps.toList).flatten.toArray⟩
def gMulS : G2 := fun s t _ => match txt? s, t with
  | some z, .val (.int i) => if 0 ≤ i ∧ i ≤ 1000 ∧ z.length ≤ 10000 then some (.str (mulS z i.toNat)) else none
  | _, _ => none
def gCutS (s : Sl) (lo hi : Option Int) : Option PyData := match txt? s with
  | some z => if z.length ≤ 16777216 then some (.str (cutS z lo hi)) else none
  | _ => none
def eSlS (f : Ev) (lo hi : En → Hs → Rz (Option Int)) : Ev := fun env h => (f env h).bind fun s h => (lo env h).bind fun l h => (hi env h).bind fun u h => .give (gCutS s l u) h
@[simp] theorem v_mulS {z : Str} {i : Int} {h : Hs} : gMulS (.val (.str z)) (.val (.int i)) h = if 0 ≤ i ∧ i ≤ 1000 ∧ z.length ≤ 10000 then some (.str (mulS z i.toNat)) else none := id rfl
@[simp] theorem v_cutS {z : Str} {lo hi : Option Int} : gCutS (.val (.str z)) lo hi = if z.length ≤ 16777216 then some (.str (cutS z lo hi)) else none := id rfl
@[simp] theorem v_slS {f : Ev} {lo hi : En → Hs → Rz (Option Int)} {env : En} {h : Hs} : eSlS f lo hi env h = (f env h).bind fun s h => (lo env h).bind fun l h => (hi env h).bind fun u h => .give (gCutS s l u) h := id rfl
end FL
namespace FL
open PySem PySem.Spec PyProof.Rows L2
inductive Oe (r : Fl) (N : En → Hs → Prop) (R : Sl → Hs → Prop) (Z : Exn → Hs → Prop) : Prop
  | nx (e : En) (h : Hs) (q : r = .next e h) (p : N e h) : Oe r N R Z
  | rt (s : Sl) (h : Hs) (q : r = .ret s h) (p : R s h) : Oe r N R Z
  | er (x : Exn) (e : En) (h : Hs) (q : r = .err x e h) (p : Z x h) : Oe r N R Z
theorem Oe.mono {r : Fl} {N N' : En → Hs → Prop} {R R' : Sl → Hs → Prop} {Z Z' : Exn → Hs → Prop} (x : Oe r N R Z) (i : ∀ e h, N e h → N' e h) (j : ∀ s h, R s h → R' s h) (k : ∀ x h, Z x h → Z' x h) : Oe r N' R' Z' := by
  cases x with
  | nx e h q p => exact .nx e h q (i e h p)
  | rt s h q p => exact .rt s h q (j s h p)
  | er x e h q p => exact .er x e h q (k x h p)
theorem Oe.seq {p q : Sv} {env : En} {h : Hs} {A B : En → Hs → Prop} {R : Sl → Hs → Prop} {Z : Exn → Hs → Prop} (x : Oe (p env h) A R Z) (y : ∀ e h, A e h → Oe (q e h) B R Z) : Oe (sSeq p q env h) B R Z := by
  rw [v_seq]
  cases x with
  | nx e h1 z a => rw [z, v_seqN]; exact y e h1 a
  | rt s h1 z a => rw [z]; exact .rt s h1 rfl a
  | er x e h1 z a => rw [z]; exact .er x e h1 rfl a
def rng2? (ss : List Sl) (h : Hs) : Rz (List PyData) := match ss with
  | [.val (.int i), .val (.int j)] => if rngOk i && rngOk j then .ok (upTo i (j - i).toNat) h else .bad
  | _ => .bad
@[simp] theorem v_rngB {a : Av} {env : En} {h : Hs} : srcRng2 a env h = (a env h).bind fun ss h => rng2? ss h := by unfold srcRng2; congr
/-- the weight of lines -/
def wt (ys : List Str) : Nat := (ys.map (·.length)).sum + ys.length
end FL
namespace FL
open PySem PySem.Spec PyProof.Rows L2
/-- what such a def gives: data, an instance, a tuple of an instance and data -/
inductive Rs where
  | dat (d : PyData)
  | ob (o : Ob)
  | pr (o : Ob) (d : PyData)
abbrev Fm2 := List PyData → Hs → Rz Rs
inductive ArgsB (K : PySem.W.Frag) (H : Hp) (M : Ms) : List Bool → List V → List PyData → Hs → Fps → Prop
  | nil : ArgsB K H M [] [] [] [] []
  | val {io : List Bool} {v : V} {vs : List V} {d : PyData} {ds : List PyData} {os : Hs} {fps : Fps} : Rp K H M v d → ArgsB K H M io vs ds os fps → ArgsB K H M (false :: io) (v :: vs) (d :: ds) os fps
  | obj {io : List Bool} {a : Addr} {fp : List Addr} {vs : List V} {o : Ob} {ds : List PyData} {os : Hs} {fps : Fps} : ObOk K H M fp o → fp.head? = some a → ArgsB K H M io vs ds os fps → ArgsB K H M (true :: io) (.ref a :: vs) ds (o :: os) (fp :: fps)
def outB (k : Nat) (s : Sl) (h : Hs) : Rz Rs := match s with
  | .val d => .ok (.dat d) (h.take k)
  | .loc n => if k ≤ n then (match h[n]? with
    | some (.lst ds) => .ok (.ob (.lst ds)) (h.take k)
    | some (.dic kvs) => .ok (.ob (.dic kvs)) (h.take k)
    | some (.ins c fs) => .ok (.ob (.ins c fs)) (h.take k)
    | _ => .bad) else .bad
  | .pr n d => if k ≤ n then (match h[n]? with
    | some (.ins c fs) => .ok (.pr (.ins c fs) d) (h.take k)
    | _ => .bad) else .bad
  | _ => .bad
section
variable {K : PySem.W.Frag} {H : Hp} {M : Ms}
theorem ArgsB.lens : ∀ {io : List Bool} {vs : List V} {ds : List PyData} {os : Hs} {fps : Fps}, ArgsB K H M io vs ds os fps → vs.length = io.length ∧ fps.length = os.length
  | _, _, _, _, _, .nil => ⟨rfl, rfl⟩
  | _, _, _, _, _, .val _ t => ⟨congrArg (· + 1) t.lens.1, t.lens.2⟩
  | _, _, _, _, _, .obj _ _ t => ⟨congrArg (· + 1) t.lens.1, congrArg (· + 1) t.lens.2⟩
theorem ArgsB.count : ∀ {io : List Bool} {vs : List V} {ds : List PyData} {os : Hs} {fps : Fps}, ArgsB K H M io vs ds os fps → fps.length = io.count true
  | _, _, _, _, _, .nil => rfl
  | _, _, _, _, _, .val _ t => by rw [List.count_cons]; simpa using t.count
  | _, _, _, _, _, .obj _ _ t => by rw [List.count_cons]; simpa using t.count
theorem ArgsB.objs : ∀ {io : List Bool} {vs : List V} {ds : List PyData} {os : Hs} {fps : Fps}, ArgsB K H M io vs ds os fps → ∀ (n : Nat) (fp : List Addr) (o : Ob), fps[n]? = some fp → os[n]? = some o → ObOk K H M fp o
  | _, _, _, _, _, .nil, _, _, _, e, _ => by simp at e
  | _, _, _, _, _, .val _ t, n, a, o, e, e' => t.objs n a o e e'
  | _, _, _, _, _, .obj x _ t, 0, a, o, e, e' => by
    simp at e e'
    subst e; subst e'
    exact x
  | _, _, _, _, _, .obj x _ t, n + 1, a, o, e, e' => t.objs n a o (by simpa using e) (by simpa using e')
theorem ArgsB.trk {io : List Bool} {vs : List V} {ds : List PyData} {os : Hs} {fps : Fps} (a : ArgsB K H M io vs ds os fps) : ∀ b ∈ fps.flatten, ∃ o, H b = some o := fun b hb => by
  obtain ⟨fp, m1, m2⟩ := List.mem_flatten.mp hb
  obtain ⟨n, hn, e⟩ := List.getElem_of_mem m1
  have h2 : n < os.length := by rw [← a.lens.2]; exact hn
  exact (a.objs n fp os[n] (by rw [← e]; exact List.getElem?_eq_getElem hn) (List.getElem?_eq_getElem h2)).trk b m2
end
theorem zip_fs {α β : Type} : ∀ l : List (α × β), (l.map (·.1)).zip (l.map (·.2)) = l
  | [] => rfl
  | p :: l => by
    rw [List.map_cons, List.map_cons, List.zip_cons_cons, zip_fs l]
def splitB : List Bool → List Sl → Hs → Option (List PyData × List Nat × Hs)
  | [], [], _ => some ([], [], [])
  | false :: io, .val d :: ss, h => (splitB io ss h).map fun p => (d :: p.1, p.2.1, p.2.2)
  | true :: io, .loc n :: ss, h => match h[n]? with
    | some .gone => none
    | some o => (splitB io ss h).map fun p => (p.1, n :: p.2.1, o :: p.2.2)
    | none => none
  | _, _, _ => none
def callB (m : Fm2) (io : List Bool) (ss : List Sl) (h : Hs) : Rz Sl := match splitB io ss h with
  | some (ds, ns, os) => if apartN ns [] = true then (match m ds os with
      | .ok (.dat d) os' => .ok (.val d) (putObs ns os' h)
      | .ok (.ob o) os' => .ok (.loc h.length) (putObs ns os' h ++ [o])
      | .ok (.pr o d) os' => .ok (.pr h.length d) (putObs ns os' h ++ [o])
      | .err x os' => .err x (putObs ns os' h)
      | .bad => .bad) else .bad
  | none => .bad
def RootsB (ρ : Fps) (ns : List Nat) (fps : Fps) : Prop := Paired (fun (n : Nat) (fp : List Addr) => ρ[n]? = some fp) ns fps
section
variable {K : PySem.W.Frag} {C : Fc} {ρ : Fps} {H : Hp} {h : Hs}
theorem RootsB.mem {ns : List Nat} {fps : Fps} (r : RootsB ρ ns fps) : ∀ a ∈ fps.flatten, a ∈ ρ.flatten := by
  induction r with
  | nil => intro a h; cases h
  | cons e t ih =>
    intro a h
    rw [List.flatten_cons, List.mem_append] at h
    rcases h with z | z
    · exact flat_at e z
    · exact ih a z
theorem RootsB.ix {ns : List Nat} {fps : Fps} (r : RootsB ρ ns fps) : ∀ a ∈ fps.flatten, ∃ n ∈ ns, ∃ fp, ρ[n]? = some fp ∧ a ∈ fp := by
  induction r with
  | nil => intro a h; cases h
  | @cons n fp _ _ e t ih =>
    intro a h
    rw [List.flatten_cons, List.mem_append] at h
    rcases h with z | z
    · exact ⟨n, by simp, fp, e, z⟩
    · obtain ⟨m, hm, fq, q1, q2⟩ := ih a z
      exact ⟨m, by simp [hm], fq, q1, q2⟩
end
def eCallB (m : Fm2) (io : List Bool) (fa : Av) : Ev := fun env h => (fa env h).bind fun ss h => callB m io ss h
end FL
namespace FL
open PySem PySem.Spec PyProof.Rows L2
def isSub : Fv → Bool
  | .dat _ => false
  | .lst _ => true
  | .dic _ => true
/-- a field, the number of those ahead that are objects of their own -/
def subIx : List (Str × Fv) → Str → Nat → Option (Fv × Nat)
  | [], _, _ => none
  | (g, v) :: fs, f, k => if g = f then some (v, k) else subIx fs f (if isSub v then k + 1 else k)
def putFv (f : Str) (v : Fv) : List (Str × Fv) → List (Str × Fv)
  | [] => [(f, v)]
  | (g, x) :: r => if g = f then (g, v) :: r else (g, x) :: putFv f v r
/-- an instance of a class among the def's own -/
def insS (c : Str) (s : Sl) (h : Hs) : Option (Nat × List (Str × Fv)) := match s with
  | .loc n => match h[n]? with
    | some (.ins c' fs) => if c' = c then some (n, fs) else none
    | _ => none
  | _ => none
/-- one that is data -/
def strs? : List PyData → Option (List Str)
  | [] => some []
  | .str x :: r => (strs? r).map (x :: ·)
  | _ :: _ => none
def insD (c : Str) (d : PyData) : Option (List (Str × PyData)) := match d with
  | .dict [(.int z, .tuple (.str c' :: ns)), (.int z', .list ds)] => if z = bigZ ∧ z' = bigZ ∧ c' = c then (strs? ns).map fun fs => fs.zip ds else none
  | _ => none
section
variable {K : PySem.W.Frag} {H : Hp} {M : Ms}
theorem Flds.names {vs : List (Str × V)} {fs : List (Str × Fv)} {bs : List Addr} (x : Flds K H M vs fs bs) : vs.map (·.1) = fs.map (·.1) := by
  induction x with
  | nil => rfl
  | dat _ _ ih => rw [List.map_cons, List.map_cons, ih]
  | lst _ _ _ ih => rw [List.map_cons, List.map_cons, ih]
  | dic _ _ _ _ ih => rw [List.map_cons, List.map_cons, ih]
theorem Flds.len {vs : List (Str × V)} {fs : List (Str × Fv)} {bs : List Addr} (x : Flds K H M vs fs bs) : vs.length = fs.length := by
  have := congrArg List.length x.names
  simpa using this
theorem Flds.get {vs : List (Str × V)} {fs : List (Str × Fv)} {bs : List Addr} (x : Flds K H M vs fs bs) : ∀ {f : Str} {v : Fv} {k i : Nat}, subIx fs f k = some (v, i) → k ≤ i ∧ ∃ y, vs.lookup f = some y ∧ match v with
    | .dat d => Rp K H M y d
    | _ => ∃ b, bs[i - k]? = some b ∧ y = .ref b ∧ (subs fs)[i - k]? = some v := by
  induction x with
  | nil => intro f v k i e; cases e
  | @dat g y d vs fs bs r t ih =>
    intro f v k i e
    unfold subIx at e
    split at e
    · rename_i hg
      cases e
      subst hg
      exact ⟨Nat.le_refl _, y, by rw [List.lookup_cons, beq_self_eq_true], r⟩
    · rename_i hg
      obtain ⟨h1, z, h2, h3⟩ := ih (k := k) (by simpa [isSub] using e)
      refine ⟨h1, z, ?_, ?_⟩
      · rw [List.lookup_cons, beq_eq_false_iff_ne.mpr fun z => hg z.symm]
        exact h2
      · cases v with
        | dat d => exact h3
        | lst ds => exact h3
        | dic kvs => exact h3
  | @lst g b xs ds vs fs bs e0 r t ih =>
    intro f v k i e
    unfold subIx at e
    split at e
    · rename_i hg
      cases e
      subst hg
      refine ⟨Nat.le_refl _, .ref b, by rw [List.lookup_cons, beq_self_eq_true], b, ?_, rfl, ?_⟩
      · rw [Nat.sub_self]; rfl
      · rw [Nat.sub_self]; rfl
    · rename_i hg
      obtain ⟨h1, z, h2, h3⟩ := ih (k := k + 1) (by simpa [isSub] using e)
      refine ⟨by omega, z, ?_, ?_⟩
      · rw [List.lookup_cons, beq_eq_false_iff_ne.mpr fun z => hg z.symm]
        exact h2
      · have e2 : i - k = (i - (k + 1)) + 1 := by omega
        cases v with
        | dat d => exact h3
        | lst ds =>
          obtain ⟨c, q1, q2, q3⟩ := h3
          exact ⟨c, by rw [e2]; simpa using q1, q2, by rw [e2]; simpa [subs] using q3⟩
        | dic kvs =>
          obtain ⟨c, q1, q2, q3⟩ := h3
          exact ⟨c, by rw [e2]; simpa using q1, q2, by rw [e2]; simpa [subs] using q3⟩
  | @dic g b xs ps vs fs bs e0 e1 r t ih =>
    intro f v k i e
    unfold subIx at e
    split at e
    · rename_i hg
      cases e
      subst hg
      refine ⟨Nat.le_refl _, .ref b, by rw [List.lookup_cons, beq_self_eq_true], b, ?_, rfl, ?_⟩
      · rw [Nat.sub_self]; rfl
      · rw [Nat.sub_self]; rfl
    · rename_i hg
      obtain ⟨h1, z, h2, h3⟩ := ih (k := k + 1) (by simpa [isSub] using e)
      refine ⟨by omega, z, ?_, ?_⟩
      · rw [List.lookup_cons, beq_eq_false_iff_ne.mpr fun z => hg z.symm]
        exact h2
      · have e2 : i - k = (i - (k + 1)) + 1 := by omega
        cases v with
        | dat d => exact h3
        | lst ds =>
          obtain ⟨c, q1, q2, q3⟩ := h3
          exact ⟨c, by rw [e2]; simpa using q1, q2, by rw [e2]; simpa [subs] using q3⟩
        | dic kvs =>
          obtain ⟨c, q1, q2, q3⟩ := h3
          exact ⟨c, by rw [e2]; simpa using q1, q2, by rw [e2]; simpa [subs] using q3⟩
/-- a field is set to data: it was none, or data -/
def okF (fs : List (Str × Fv)) (f : Str) : Bool := match subIx fs f 0 with
  | none => true
  | some (.dat _, _) => true
  | _ => false
theorem subIx_any : ∀ {fs : List (Str × Fv)} {f : Str} {k j : Nat}, (subIx fs f k).map (·.1) = (subIx fs f j).map (·.1)
  | [], _, _, _ => rfl
  | (g, v) :: fs, f, k, j => by
    unfold subIx
    split
    · rfl
    · exact subIx_any
theorem okF_cons {g : Str} {v : Fv} {fs : List (Str × Fv)} {f : Str} (hg : ¬ g = f) : okF ((g, v) :: fs) f = okF fs f := by
  unfold okF
  have e : subIx ((g, v) :: fs) f 0 = subIx fs f (if isSub v then 0 + 1 else 0) := by
    show (if g = f then _ else _) = _
    rw [if_neg hg]
  rw [e]
  have := subIx_any (fs := fs) (f := f) (k := if isSub v then 0 + 1 else 0) (j := 0)
  revert this
  cases subIx fs f (if isSub v then 0 + 1 else 0) with
  | none =>
    cases subIx fs f 0 with
    | none => intro _; rfl
    | some p => intro z; cases z
  | some p =>
    cases subIx fs f 0 with
    | none => intro z; cases z
    | some q =>
      intro z
      obtain ⟨p1, p2⟩ := p
      obtain ⟨q1, q2⟩ := q
      cases (Option.some.inj z : p1 = q1)
      cases p1 <;> rfl
theorem Flds.put {vs : List (Str × V)} {fs : List (Str × Fv)} {bs : List Addr} {f : Str} {y : V} {d : PyData} (x : Flds K H M vs fs bs) (r : Rp K H M y d) : okF fs f = true → Flds K H M (putF f y vs) (putFv f (.dat d) fs) bs := by
  induction x with
  | nil => exact fun _ => .dat r .nil
  | @dat g z d0 vs fs bs r0 t ih =>
    intro e
    unfold putF putFv
    by_cases hg : g = f
    · rw [if_pos hg, if_pos hg]
      exact .dat r t
    · rw [if_neg hg, if_neg hg]
      rw [okF_cons hg] at e
      exact .dat r0 (ih e)
  | @lst g b xs ds vs fs bs e0 r0 t ih =>
    intro e
    unfold putF putFv
    by_cases hg : g = f
    · subst hg
      simp [okF, subIx] at e
    · rw [if_neg hg, if_neg hg]
      rw [okF_cons hg] at e
      exact .lst e0 r0 (ih e)
  | @dic g b xs ps vs fs bs e0 e1 r0 t ih =>
    intro e
    unfold putF putFv
    by_cases hg : g = f
    · subst hg
      simp [okF, subIx] at e
    · rw [if_neg hg, if_neg hg]
      rw [okF_cons hg] at e
      exact .dic e0 e1 r0 (ih e)
/-- a part is changed -/
theorem Flds.other {H' : Hp} {M' : Ms} {vs : List (Str × V)} {fs : List (Str × Fv)} {bs : List Addr} (s : Stp M H M' H') (x : Flds K H M vs fs bs) (k : ∀ a ∈ bs, H' a = H a) : Flds K H' M' vs fs bs := x.stp s k
end
/-- o.f of an instance of the class c -/
def fldAt (c f : Str) (s : Sl) (h : Hs) : Rz Sl := match insS c s h with
  | some (n, fs) => (match subIx fs f 0 with
    | some (.dat d, _) => .ok (.val d) h
    | some (_, i) => .ok (.inn n i) h
    | none => .bad)
  | none => match s with
    | .val d => (match (insD c d).bind fun ps => ps.lookup f with
      | some d => .ok (.val d) h
      | none => .bad)
    | _ => .bad
def eFld (c f : Str) (fo : Ev) : Ev := fun env h => (fo env h).bind fun s h => fldAt c f s h
end FL
namespace FL
open PySem PySem.Spec PyProof.Rows L2
def fvD : Fv → PyData
  | .dat d => d
  | .lst ds => .list ds
  | .dic kvs => .dict (odD (.dic (kvs.map (·.1))) (kvs.map (·.2)))
def obDat : Ob → Option PyData
  | .lst ds => some (.list ds)
  | .dic kvs => some (.dict (odD (.dic (kvs.map (·.1))) (kvs.map (·.2))))
  | .ins c fs => some (.dict (odD (.ins c (fs.map (·.1))) (fs.map fun p => fvD p.2)))
  | _ => none
def viewS (s : Sl) (h : Hs) : Option PyData := match s with
  | .val d => some d
  | .loc n => (h[n]?).bind obDat
  | _ => none
def viewA : List Sl → Hs → Option (List PyData)
  | [], _ => some []
  | s :: ss, h => match viewS s h, viewA ss h with
    | some d, some ds => some (d :: ds)
    | _, _ => none
def giveV : Rs → Option PyData
  | .dat d => if noL d = true then some d else none
  | .ob (.lst ds) => if noLs ds = true then some (.list ds) else none
  | .ob (.dic kvs) => if noLs (kvs.map (·.2)) = true then some (.dict (odD (.dic (kvs.map (·.1))) (kvs.map (·.2)))) else none
  | _ => none
def callV (m : Fm2) (io : List Bool) (ss : List Sl) (h : Hs) : Rz Sl := if io = List.replicate ss.length false then (match viewA ss h with
  | some ds => (match m ds [] with
    | .ok r _ => .give (giveV r) h
    | .err x _ => if noLs (x.fs.map (·.2)) = true then .err x h else .bad
    | .bad => .bad)
  | none => .bad) else .bad
def VwO : HO → Prop
  | .lst _ => True
  | .dK _ => True
  | .ins _ _ _ => True
  | _ => False
theorem VwO.nt {o : HO} (x : VwO o) : NT o := fun ps z => by subst z; exact x
def eLook (m : Fm2) (io : List Bool) (fa : Av) : Ev := fun env h => (fa env h).bind fun ss h => callV m io ss h
end FL
namespace FL
open PySem PySem.Spec PyProof.Rows L2
def innD (h : Hs) (n i : Nat) : Option (List (Key × PyData)) := match h[n]? with
  | some (.ins _ fs) => (match (subs fs)[i]? with
    | some (.dic kvs) => some kvs
    | _ => none)
  | _ => none
def kyOf (d : PyData) : Option Key := match d with
  | .int i => some (.inl i)
  | .str x => some (.inr x)
  | _ => none
def kysOf : List PyData → Option (List Key)
  | [] => some []
  | d :: ds => match kyOf d, kysOf ds with
    | some k, some ks => some (k :: ks)
    | _, _ => none
def dicD (d : PyData) : Option (List (Key × PyData)) := match d with
  | .dict [(.int z, .list ks), (.int z', .list ds)] => if z = bigZ ∧ z' = bigZ then (kysOf ks).bind fun k => if k.length = ds.length then some (k.zip ds) else none else none
  | _ => none
def dicX (s : Sl) (h : Hs) : Option (List (Key × PyData)) := match s with
  | .loc n => obK h[n]?
  | .inn n i => innD h n i
  | .val d => dicD d
  | _ => none
def keyX (s : Sl) : Option Key := match s with
  | .val d => kyOf d
  | _ => none
theorem kyOf_ky (k : Key) : kyOf (kyD k) = some k := by
  cases k <;> rfl
theorem kysOf_map : ∀ (ks : List Key), kysOf (ks.map kyD) = some ks
  | [] => rfl
  | k :: ks => by
    rw [List.map_cons]
    unfold kysOf
    rw [kyOf_ky, kysOf_map ks]
structure DicR (K : PySem.W.Frag) (H : Hp) (M : Ms) (a : Addr) (vs : List (Key × V)) (kvs : List (Key × PyData)) : Prop where
  at_ : RdK H a (.dK vs)
  keys : vs.map (·.1) = kvs.map (·.1)
  all : RpAll K H M (vs.map (·.2)) (kvs.map (·.2))
theorem DicR.k {K : PySem.W.Frag} {H : Hp} {M : Ms} {a : Addr} {vs : List (Key × V)} {kvs : List (Key × PyData)} (D : DicR K H M a vs kvs) (k : Key) : DGet H a (kV k) (valV vs k) := .inl ⟨vs, k, D.at_.rd, rfl, rfl⟩
theorem DicR.some {K : PySem.W.Frag} {H : Hp} {M : Ms} {a : Addr} {vs : List (Key × V)} {kvs : List (Key × PyData)} (d : DicR K H M a vs kvs) (k : Key) : (valV vs k).isSome = (lookD kvs k).isSome := by
  have := look_rel (k := k) d.keys d.all
  cases q : lookD kvs k with
  | none => rw [q] at this; rw [this]; rfl
  | some x =>
    rw [q] at this
    obtain ⟨v, e, _⟩ := this
    rw [e]
    rfl
@[simp] theorem v_dicD (kvs : List (Key × PyData)) : dicD (.dict (odD (.dic (kvs.map (·.1))) (kvs.map (·.2)))) = some kvs := by
  show (if bigZ = bigZ ∧ bigZ = bigZ then (kysOf ((kvs.map (·.1)).map kyD)).bind fun k => if k.length = (kvs.map (·.2)).length then some (k.zip (kvs.map (·.2))) else none else none) = _
  rw [if_pos ⟨rfl, rfl⟩, kysOf_map]
  show (if (kvs.map (·.1)).length = (kvs.map (·.2)).length then some ((kvs.map (·.1)).zip (kvs.map (·.2))) else none) = _
  rw [if_pos (by simp), zip_fs]
def gXIn : G2 := fun s t h => match keyX s, dicX t h with
  | some k, some kvs => some (.bool (lookD kvs k).isSome)
  | _, _ => none
def gXNotIn : G2 := fun s t h => match keyX s, dicX t h with
  | some k, some kvs => some (.bool (!(lookD kvs k).isSome))
  | _, _ => none
def gXIx : G2 := fun s t h => match dicX s h, keyX t with
  | some kvs, some k => lookD kvs k
  | _, _ => none
def setSub : List (Str × Fv) → Nat → Fv → List (Str × Fv)
  | [], _, _ => []
  | (f, .dat d) :: fs, i, v => (f, .dat d) :: setSub fs i v
  | (f, .lst _) :: fs, 0, v => (f, v) :: fs
  | (f, .dic _) :: fs, 0, v => (f, v) :: fs
  | (f, .lst ds) :: fs, i + 1, v => (f, .lst ds) :: setSub fs i v
  | (f, .dic kvs) :: fs, i + 1, v => (f, .dic kvs) :: setSub fs i v
def fputAt (s t u : Sl) (h : Hs) : Option Hs := match s, keyX t, u with
  | .inn n i, some k, .val d => match h[n]? with
    | some (.ins c fs) => (match (subs fs)[i]? with
      | some (.dic kvs) => if kvs.length < 16777216 then some (h.set n (.ins c (setSub fs i (.dic (putD kvs k d))))) else none
      | _ => none)
    | _ => none
  | _, _, _ => none
def sFPut (fo fi fe : Ev) : Sv := fun env h => (fe env h).fl env fun u h => (fo env h).fl env fun s h => (fi env h).fl env fun t h => match fputAt s t u h with
  | some h' => .next env h'
  | none => .bad
end FL
namespace FL
open PySem PySem.Spec PyProof.Rows L2
section
variable {X : Cx} {C : Fc} {Wx : WX}
theorem EnvOk.plus {K : PySem.W.Frag} {ρ : Fps} {H : Hp} {env : En} {σ : St} {D : Addr} {o : HO} (E : EnvOk K C ρ H env σ) (hD : H D = none) : EnvOk K (C.plus D) ρ (upd H D o) env σ := by
  refine ⟨E.len, fun i s e => ?_⟩
  obtain ⟨v, e1, r⟩ := E.at_ i s e
  refine ⟨v, e1, ?_⟩
  cases s with
  | val d => exact Rp.stp (Stp.plus hD) r
  | loc n => exact r
  | inn n i => exact r
  | exn x => exact r
  | pr _ _ => exact SlV.prs (Stp.plus hD) r
end
section
variable {K : PySem.W.Frag} {C : Fc} {ρ : Fps} {H : Hp} {h : Hs} {a : Addr} {vs : List (Key × V)} {od : Obj}
theorem RpAll.of {H' : Hp} {M M' : Ms} (f : ∀ v d, Rp K H M v d → Rp K H' M' v d) : ∀ {vs : List V} {ds : List PyData}, RpAll K H M vs ds → RpAll K H' M' vs ds
  | [], _, .nil => .nil
  | _ :: _, _, .cons r t => .cons (f _ _ r) (RpAll.of f t)
theorem Flds.of {H' : Hp} {M M' : Ms} (f : ∀ v d, Rp K H M v d → Rp K H' M' v d) {vs : List (Str × V)} {fs : List (Str × Fv)} {bs : List Addr} (x : Flds K H M vs fs bs) : (∀ b ∈ bs, H' b = H b) → Flds K H' M' vs fs bs := by
  induction x with
  | nil => exact fun _ => .nil
  | dat r _ ih => exact fun k => .dat (f _ _ r) (ih k)
  | lst e r _ ih => exact fun k => .lst ((k _ (by simp)).trans e) (r.of f) (ih fun b m => k b (List.mem_cons_of_mem _ m))
  | dic e q r _ ih => exact fun k => .dic ((k _ (by simp)).trans e) q (r.of f) (ih fun b m => k b (List.mem_cons_of_mem _ m))
theorem ObOk.of {H' : Hp} {M M' : Ms} {fp : List Addr} {o : Ob} (f : ∀ v d, Rp K H M v d → Rp K H' M' v d) (k : ∀ b ∈ fp, H' b = H b) (x : ObOk K H M fp o) : ObOk K H' M' fp o := by
  cases o with
  | lst ds =>
    obtain ⟨b, ws, rfl, e, r⟩ := x
    exact ⟨b, ws, rfl, (k b (by simp)).trans e, r.of f⟩
  | dic kvs =>
    obtain ⟨b, ws, rfl, e, q, r⟩ := x
    exact ⟨b, ws, rfl, (k b (by simp)).trans e, q, r.of f⟩
  | lls dss =>
    obtain ⟨b, bs, rfl, e, l, w⟩ := x
    refine ⟨b, bs, rfl, (k b (by simp)).trans e, l, fun i c ds e1 e2 => ?_⟩
    obtain ⟨ws, e3, r⟩ := w i c ds e1 e2
    exact ⟨ws, (k c (List.mem_cons_of_mem _ (List.mem_of_getElem? e1))).trans e3, r.of f⟩
  | dil dss ks =>
    obtain ⟨b, bs, rfl, e, l0, l, w⟩ := x
    refine ⟨b, bs, rfl, (k b (by simp)).trans e, l0, l, fun i c ds e1 e2 => ?_⟩
    obtain ⟨ws, e3, r⟩ := w i c ds e1 e2
    exact ⟨ws, (k c (List.mem_cons_of_mem _ (List.mem_of_getElem? e1))).trans e3, r.of f⟩
  | dtp ks =>
    obtain ⟨b, rfl, e⟩ := x
    exact ⟨b, rfl, (k b (by simp)).trans e⟩
  | dtq kvs =>
    obtain ⟨b, ws, rfl, e, q, r⟩ := x
    exact ⟨b, ws, rfl, (k b (by simp)).trans e, q, r.of f⟩
  | ins c fs =>
    obtain ⟨b, Ca, dx, ws, bs, rfl, ic, hb, fl⟩ := x
    exact ⟨b, Ca, dx, ws, bs, rfl, ic, (k b (by simp)).trans hb, fl.of f fun c m => k c (List.mem_cons_of_mem _ m)⟩
  | gone => exact x
end
end FL
namespace FL
open PySem PySem.Spec PyProof.Rows L2
abbrev FmI := List PyData → Rz Ob
def endI (c : Str) (h : Hs) : Rz Ob := match h[(0 : Nat)]? with
  | some (.ins c' fs) => .ok (.ins c' fs) []
  | _ => .bad
def runI (c f1 f2 : Str) (io : List Bool) (nl : Nat) (fb : Sv) : FmI := fun ds => match fb (mkEnv (true :: io) ds 0 ++ List.replicate nl none) [.ins c [(f1, .lst []), (f2, .dic [])]] with
  | .next _ h => endI c h
  | .err x _ _ => .err x []
  | _ => .bad
def dats? : List Sl → Option (List PyData)
  | [] => some []
  | .val d :: ss => (dats? ss).map (d :: ·)
  | _ :: _ => none
def makeI (m : FmI) (n : Nat) (ss : List Sl) (h : Hs) : Rz Sl := match dats? ss with
  | some ds => if ss.length = n then (match m ds with
    | .ok o _ => .ok (.loc h.length) (h ++ [o])
    | .err x _ => .err x h
    | .bad => .bad) else .bad
  | none => .bad
def eMakeI (m : FmI) (n : Nat) (fa : Av) : Ev := fun env h => (fa env h).bind fun ss h => makeI m n ss h
end FL
namespace FL
open PySem PySem.Spec PyProof.Rows L2
@[simp] theorem v_eFld {c f : Str} {fo : Ev} {env : En} {h : Hs} : eFld c f fo env h = (fo env h).bind fun s h => fldAt c f s h := id rfl
@[simp] theorem v_look {m : Fm2} {io : List Bool} {fa : Av} {env : En} {h : Hs} : eLook m io fa env h = (fa env h).bind fun ss h => callV m io ss h := id rfl
@[simp] theorem v_callB {m : Fm2} {io : List Bool} {fa : Av} {env : En} {h : Hs} : eCallB m io fa env h = (fa env h).bind fun ss h => callB m io ss h := id rfl
@[simp] theorem v_eMakeI {m : FmI} {n : Nat} {fa : Av} {env : En} {h : Hs} : eMakeI m n fa env h = (fa env h).bind fun ss h => makeI m n ss h := id rfl
def xin? (a : Option Key) (b : Option (List (Key × PyData))) : Option PyData := match a, b with
  | some k, some kvs => some (.bool (lookD kvs k).isSome)
  | _, _ => none
def xnin? (a : Option Key) (b : Option (List (Key × PyData))) : Option PyData := match a, b with
  | some k, some kvs => some (.bool (!(lookD kvs k).isSome))
  | _, _ => none
def xix? (b : Option (List (Key × PyData))) (a : Option Key) : Option PyData := match b, a with
  | some kvs, some k => lookD kvs k
  | _, _ => none
@[simp] theorem v_xin1 {ky : Key} {kvs : List (Key × PyData)} : xin? (some ky) (some kvs) = some (.bool (lookD kvs ky).isSome) := id rfl
@[simp] theorem v_xnin1 {ky : Key} {kvs : List (Key × PyData)} : xnin? (some ky) (some kvs) = some (.bool (!(lookD kvs ky).isSome)) := id rfl
@[simp] theorem v_xix1 {ky : Key} {kvs : List (Key × PyData)} : xix? (some kvs) (some ky) = lookD kvs ky := id rfl
@[simp] theorem v_gXIn {s t : Sl} {h : Hs} : gXIn s t h = xin? (keyX s) (dicX t h) := id rfl
@[simp] theorem v_gXNotIn {s t : Sl} {h : Hs} : gXNotIn s t h = xnin? (keyX s) (dicX t h) := id rfl
@[simp] theorem v_gXIx {s t : Sl} {h : Hs} : gXIx s t h = xix? (dicX s h) (keyX t) := id rfl
@[simp] theorem v_keyXi {i : Int} : keyX (.val (.int i)) = some (.inl i) := id rfl
@[simp] theorem v_dicXv {d : PyData} {h : Hs} : dicX (.val d) h = dicD d := id rfl
@[simp] theorem v_dicXo {n : Nat} {h : Hs} : dicX (.loc n) h = obK h[n]? := id rfl
@[simp] theorem v_dicXi {n i : Nat} {h : Hs} : dicX (.inn n i) h = innD h n i := id rfl
@[simp] theorem v_sFPut {f1 f2 f3 : Ev} {env : En} {h : Hs} : sFPut f1 f2 f3 env h = (f3 env h).fl env fun u h => (f1 env h).fl env fun s h => (f2 env h).fl env fun t h => put? (fputAt s t u h) env := by
  unfold sFPut put?
  rfl
@[simp] theorem v_outBv {k : Nat} {d : PyData} {h : Hs} : outB k (.val d) h = .ok (.dat d) (h.take k) := id rfl
end FL
namespace FL
open PySem PySem.Spec PyProof.Rows L2
section
variable {prog : Program} {w : World} {A : Around} {E : Value → Shared → Prop} {s : Shared}
theorem zipT_next_item_held {z TI TO T i1 i2 l1 l2 : Addr} {f : Bool} {oT : Obj} {k1 k2 : Nat} {xs ys : Array Value} {x y : Value} {Q : Value → Shared → Prop} (D : ZipApart z TI TO i1 i2 l1 l2)
    (hz : IsZipHeld s.heap z TI TO T f) (hT : s.heap.get? T = some oT) (hTI : IsPair s.heap TI (.ref i1) (.ref i2))
    (h1 : s.heap.IsTupleIter i1 l1 k1) (h2 : s.heap.IsTupleIter i2 l2 k2) (hl1 : s.heap.IsTuple l1 xs) (hl2 : s.heap.IsTuple l2 ys) (hx : xs[k1]? = some x) (hy : ys[k2]? = some y)
    (hQ : ∀ h', IsZipHeld h' z TI TO T true → h'.IsTupleIter i1 l1 (k1 + 1) → h'.IsTupleIter i2 l2 (k2 + 1) → IsPair h' s.heap.objs.size x y → h'.objs.size = s.heap.objs.size + 1 →
      (∀ c o, c ≠ z → c ≠ i1 → c ≠ i2 → s.heap.get? c = some o → h'.get? c = some o) → Q (.ref s.heap.objs.size) { s with heap := h' }) :
    wpAny (model prog w) A (Builtin.«zip.__next__» ⟨[.ref z], []⟩) (fun fin s' => ∃ v, fin = .done (.ret v) ∧ Q v s') E s := by
  show wpAny _ _ (field (.ref z) 2 >>= _) _ _ _
  refine wpAny_bind (wpAny_field hz rfl (x := .bool false) rfl ?_)
  show wpAny _ _ (field (.ref z) 3 >>= _) _ _ _
  refine wpAny_bind (wpAny_field hz rfl (x := .ref TI) rfl ?_)
  refine wpAny_bind (wpAny_seqItems hTI rfl ?_)
  show wpAny _ _ (Builtin.SmallTypes.ownedTupleIsFree (.ref z) >>= _) _ _ _
  refine wpAny_bind (wpAny_tupleHeld_zip hz hT fun h₁ hz₁ hs₁ => ?_)
  simp only [Bool.false_eq_true, if_false]
  refine wpAny_bind ?_
  rw [← Array.forIn_toList]
  simp only [List.forIn_cons, List.forIn_nil]
  refine wpAny_bind (wpAny_bind (wpAny_holding ?_))
  show wpAny _ _ (Builtin.SmallTypes.nextOf (.ref i1) >>= _) _ _ _
  refine wpAny_bind (RZ.nextOf_tuple_item (s := { s with heap := h₁ }) (h1.extBut hs₁.extBut D.i1z) (hl1.extBut hs₁.extBut D.l1z) hx fun h₂ h1₂ hs₂ => wpAny_pure ?_)
  refine wpAny_pure ?_
  refine wpAny_bind (wpAny_bind (wpAny_holding ?_))
  show wpAny _ _ (Builtin.SmallTypes.nextOf (.ref i2) >>= _) _ _ _
  refine wpAny_bind (RZ.nextOf_tuple_item (s := { s with heap := h₂ }) ((h2.extBut hs₁.extBut D.i2z).extBut hs₂.extBut D.i12.symm) ((hl2.extBut hs₁.extBut D.l2z).extBut hs₂.extBut D.l2i1) hy fun h₃ h2₃ hs₃ => wpAny_pure ?_)
  refine wpAny_pure (wpAny_pure ?_)
  show wpAny _ _ (newTuple [x, y] >>= _) _ _ _
  refine wpAny_bind (wpAny_newTuple ?_)
  have hsz : h₃.objs.size = s.heap.objs.size := by rw [hs₃.1, hs₂.1, hs₁.1]
  have hz₃ : IsZipHeld h₃ z TI TO T true := hs₃.extBut _ _ D.i2z.symm (hs₂.extBut _ _ D.i1z.symm hz₁)
  have hk : ∀ c o, c ≠ z → c ≠ i1 → c ≠ i2 → s.heap.get? c = some o → h₃.get? c = some o := fun c o c1 c2 c3 e => hs₃.extBut _ _ c3 (hs₂.extBut _ _ c2 (hs₁.extBut _ _ c1 e))
  have h1₃ : h₃.IsTupleIter i1 l1 (k1 + 1) := h1₂.extBut hs₃.extBut D.i12
  refine wpAny_pure ⟨_, rfl, ?_⟩
  show Q (.ref h₃.objs.size) _
  have hp : IsPair (h₃.push { cls := .type "tuple", data := .seq #[x, y] }) h₃.objs.size x y := Heap.get?_push_size _ rfl
  have hz4 : (h₃.push { cls := .type "tuple", data := .seq #[x, y] }).objs.size = h₃.objs.size + 1 := Heap.size_push ..
  rw [hsz] at hp hz4 ⊢
  exact hQ _ (Heap.get?_push_of_some _ hz₃) (h1₃.at fun o e => Heap.get?_push_of_some _ e) (h2₃.at fun o e => Heap.get?_push_of_some _ e) hp hz4 fun c o c1 c2 c3 e => Heap.get?_push_of_some _ (hk c o c1 c2 c3 e)
theorem zipT_next_end_held {z TI TO T i1 i2 l1 l2 : Addr} {f : Bool} {oT : Obj} {k1 k2 : Nat} {xs ys : Array Value} {Q : Fin → Shared → Prop} (hh : A.handled = none) (D : ZipApart z TI TO i1 i2 l1 l2)
    (hz : IsZipHeld s.heap z TI TO T f) (hT : s.heap.get? T = some oT) (hTI : IsPair s.heap TI (.ref i1) (.ref i2))
    (h1 : s.heap.IsTupleIter i1 l1 k1) (h2 : s.heap.IsTupleIter i2 l2 k2) (hl1 : s.heap.IsTuple l1 xs) (hl2 : s.heap.IsTuple l2 ys) (hend : xs[k1]? = none ∨ ys[k2]? = none)
    (hE : ∀ h' e, (∀ c o, c ≠ z → c ≠ i1 → c ≠ i2 → s.heap.get? c = some o → h'.get? c = some o) → (∃ o, h'.get? e = some o ∧ o.cls = .type "StopIteration") → E (.ref e) { s with heap := h' }) :
    wpAny (model prog w) A (Builtin.«zip.__next__» ⟨[.ref z], []⟩) Q E s := by
  show wpAny _ _ (field (.ref z) 2 >>= _) _ _ _
  refine wpAny_bind (wpAny_field hz rfl (x := .bool false) rfl ?_)
  show wpAny _ _ (field (.ref z) 3 >>= _) _ _ _
  refine wpAny_bind (wpAny_field hz rfl (x := .ref TI) rfl ?_)
  refine wpAny_bind (wpAny_seqItems hTI rfl ?_)
  show wpAny _ _ (Builtin.SmallTypes.ownedTupleIsFree (.ref z) >>= _) _ _ _
  refine wpAny_bind (wpAny_tupleHeld_zip hz hT fun h₁ hz₁ hs₁ => ?_)
  simp only [Bool.false_eq_true, if_false]
  refine wpAny_bind ?_
  rw [← Array.forIn_toList]
  simp only [List.forIn_cons, List.forIn_nil]
  refine wpAny_bind (wpAny_bind (wpAny_holding ?_))
  show wpAny _ _ (Builtin.SmallTypes.nextOf (.ref i1) >>= _) _ _ _
  cases hx : xs[k1]? with
  | none =>
    refine wpAny_bind (RZ.nextOf_tuple_end (s := { s with heap := h₁ }) hh (h1.extBut hs₁.extBut D.i1z) (hl1.extBut hs₁.extBut D.l1z) hx fun h₂ e hs₂ he => ?_)
    exact hE h₂ e (fun c o c1 c2 _ x => hs₂ _ _ c2 (hs₁.extBut _ _ c1 x)) he
  | some x =>
    have hy : ys[k2]? = none := by rcases hend with h | h; rw [hx] at h; cases h; exact h
    refine wpAny_bind (RZ.nextOf_tuple_item (s := { s with heap := h₁ }) (h1.extBut hs₁.extBut D.i1z) (hl1.extBut hs₁.extBut D.l1z) hx fun h₂ h1₂ hs₂ => wpAny_pure ?_)
    refine wpAny_pure ?_
    refine wpAny_bind (wpAny_bind (wpAny_holding ?_))
    show wpAny _ _ (Builtin.SmallTypes.nextOf (.ref i2) >>= _) _ _ _
    refine wpAny_bind (RZ.nextOf_tuple_end (s := { s with heap := h₂ }) hh ((h2.extBut hs₁.extBut D.i2z).extBut hs₂.extBut D.i12.symm) ((hl2.extBut hs₁.extBut D.l2z).extBut hs₂.extBut D.l2i1) hy fun h₃ e hs₃ he => ?_)
    exact hE h₃ e (fun c o c1 c2 c3 x => hs₃ _ _ c3 (hs₂.extBut _ _ c2 (hs₁.extBut _ _ c1 x))) he
theorem pyNext_zipT_item_held {z TI TO T i1 i2 l1 l2 : Addr} {f : Bool} {oT : Obj} {k1 k2 : Nat} {xs ys : Array Value} {x y : Value} {Q : Option Value → Shared → Prop} (D : ZipApart z TI TO i1 i2 l1 l2)
    (hz : IsZipHeld s.heap z TI TO T f) (hT : s.heap.get? T = some oT) (hTI : IsPair s.heap TI (.ref i1) (.ref i2))
    (h1 : s.heap.IsTupleIter i1 l1 k1) (h2 : s.heap.IsTupleIter i2 l2 k2) (hl1 : s.heap.IsTuple l1 xs) (hl2 : s.heap.IsTuple l2 ys) (hx : xs[k1]? = some x) (hy : ys[k2]? = some y)
    (hQ : ∀ h', IsZipHeld h' z TI TO T true → h'.IsTupleIter i1 l1 (k1 + 1) → h'.IsTupleIter i2 l2 (k2 + 1) → IsPair h' s.heap.objs.size x y → h'.objs.size = s.heap.objs.size + 1 →
      (∀ c o, c ≠ z → c ≠ i1 → c ≠ i2 → s.heap.get? c = some o → h'.get? c = some o) → Q (some (.ref s.heap.objs.size)) { s with heap := h' }) :
    wpAny (model prog w) A (pyNext (.ref z)) Q E s := by
  have hTy : s.TypeIs (.ref z) "zip" := ⟨_, hz, rfl⟩
  unfold pyNext
  exact wpAny_bind (wpAny_attempt (wpAny_callSpecial?_slot (name := Str.ofString "__next__") hTy F.slot_zip_next
    (wpAny_call_entry F.slot_zip_next hTy F.entry_zip_next
      (zipT_next_item_held D hz hT hTI h1 h2 hl1 hl2 hx hy fun h' a1 a3 a4 a5 a6 a7 => wpAny_pure (hQ h' a1 a3 a4 a5 a6 a7)) (F.args_zip_next_1 _))))
theorem pyNext_zipT_end_held {z TI TO T i1 i2 l1 l2 : Addr} {f : Bool} {oT : Obj} {k1 k2 : Nat} {xs ys : Array Value} {Q : Option Value → Shared → Prop} (hh : A.handled = none) (D : ZipApart z TI TO i1 i2 l1 l2)
    (hz : IsZipHeld s.heap z TI TO T f) (hT : s.heap.get? T = some oT) (hTI : IsPair s.heap TI (.ref i1) (.ref i2))
    (h1 : s.heap.IsTupleIter i1 l1 k1) (h2 : s.heap.IsTupleIter i2 l2 k2) (hl1 : s.heap.IsTuple l1 xs) (hl2 : s.heap.IsTuple l2 ys) (hend : xs[k1]? = none ∨ ys[k2]? = none)
    (hQ : ∀ h', (∀ c o, c ≠ z → c ≠ i1 → c ≠ i2 → s.heap.get? c = some o → h'.get? c = some o) → Q none { s with heap := h' }) : wpAny (model prog w) A (pyNext (.ref z)) Q E s := by
  have hTy : s.TypeIs (.ref z) "zip" := ⟨_, hz, rfl⟩
  unfold pyNext
  refine wpAny_bind (wpAny_attempt (wpAny_callSpecial?_slot (name := Str.ofString "__next__") hTy F.slot_zip_next
    (wpAny_call_entry F.slot_zip_next hTy F.entry_zip_next (zipT_next_end_held hh D hz hT hTI h1 h2 hl1 hl2 hend fun h' e hk he => ?_) (F.args_zip_next_1 _))))
  obtain ⟨o, ho, hc⟩ := he
  refine wpAny_bind (wpAny_isInstance (T := "StopIteration") (b := true) ⟨o, ho, hc⟩ isSubtype_stop ?_)
  exact wpAny_pure (hQ _ hk)
/-- the zip of two tuples, i drawn -/
structure ZS (z TI TO i1 i2 l1 l2 S : Addr) (xs ys : Array Value) (i : Nat) (h : Heap) : Prop where
  ti : IsPair h TI (.ref i1) (.ref i2)
  it1 : h.IsTupleIter i1 l1 i
  it2 : h.IsTupleIter i2 l2 i
  t1 : h.IsTuple l1 xs
  t2 : h.IsTuple l2 ys
  to : ∃ x y, IsPair h TO x y
  st : IsZip h z TI TO .none ∨ ∃ (T : Addr) (f : Bool) (oT : Obj), IsZipHeld h z TI TO T f ∧ h.get? T = some oT ∧ T ≠ z ∧ T ≠ i1 ∧ T ≠ i2 ∧ T ≠ S ∧ T ≠ TO
/-- one more -/
theorem ZS.item {z TI TO i1 i2 l1 l2 S : Addr} {xs ys : Array Value} {i : Nat} {x y : Value} {Q : Option Value → Shared → Prop} (D : ZipApart z TI TO i1 i2 l1 l2) (Z : ZS z TI TO i1 i2 l1 l2 S xs ys i s.heap) (hS : S < s.heap.objs.size) (hx : xs[i]? = some x) (hy : ys[i]? = some y)
    (hQ : ∀ h', ZS z TI TO i1 i2 l1 l2 S xs ys (i + 1) h' → IsPair h' s.heap.objs.size x y → h'.objs.size = s.heap.objs.size + 1 → (∀ c o, c ≠ z → c ≠ TO → c ≠ i1 → c ≠ i2 → s.heap.get? c = some o → h'.get? c = some o) → Q (some (.ref s.heap.objs.size)) { s with heap := h' }) :
    wpAny (model prog w) A (pyNext (.ref z)) Q E s := by
  obtain ⟨hTI, h1, h2, hl1, hl2, ⟨a, b, hTO⟩, st⟩ := Z
  have t1 := hl1
  have t2 := hl2
  obtain ⟨o1, e1, r1⟩ := t1
  obtain ⟨o2, e2, r2⟩ := t2
  rcases st with hz | ⟨T, f, oT, hz, hT, n1, n2, n3, n4, n5⟩
  · refine RZ.pyNext_zipT_item D hz hTI hTO h1 h2 hl1 hl2 hx hy fun h' a1 a2 a3 a4 a5 a6 hk => ?_
    have lt : ∀ {c o}, s.heap.get? c = some o → s.heap.objs.size ≠ c := fun e => Nat.ne_of_gt (Heap.lt_size e)
    refine hQ h' ⟨hk _ _ D.TIz D.TITO D.TIi1 D.TIi2 hTI, a3, a4, ⟨o1, hk _ _ D.l1z D.l1TO D.l1i1 D.l1i2 e1, r1⟩, ⟨o2, hk _ _ D.l2z D.l2TO D.l2i1 D.l2i2 e2, r2⟩, ⟨_, _, a2⟩, .inr ⟨_, _, _, a1, a5, lt hz, ?_, ?_, Nat.ne_of_gt hS, lt hTO⟩⟩ a5 a6 hk
    · obtain ⟨_, e, _⟩ := h1; exact lt e
    · obtain ⟨_, e, _⟩ := h2; exact lt e
  · refine pyNext_zipT_item_held D hz hT hTI h1 h2 hl1 hl2 hx hy fun h' a1 a3 a4 a5 a6 hk => ?_
    exact hQ h' ⟨hk _ _ D.TIz D.TIi1 D.TIi2 hTI, a3, a4, ⟨o1, hk _ _ D.l1z D.l1i1 D.l1i2 e1, r1⟩, ⟨o2, hk _ _ D.l2z D.l2i1 D.l2i2 e2, r2⟩, ⟨a, b, hk _ _ D.TOz D.TOi1 D.TOi2 hTO⟩, .inr ⟨T, true, oT, a1, hk _ _ n1 n2 n3 hT, n1, n2, n3, n4, n5⟩⟩ a5 a6 fun c o c1 c2 c3 c4 => hk c o c1 c3 c4
theorem ZS.done {z TI TO i1 i2 l1 l2 S : Addr} {xs ys : Array Value} {i : Nat} {Q : Option Value → Shared → Prop} (hh : A.handled = none) (D : ZipApart z TI TO i1 i2 l1 l2) (Z : ZS z TI TO i1 i2 l1 l2 S xs ys i s.heap) (hend : xs[i]? = none ∨ ys[i]? = none)
    (hQ : ∀ h', (∀ c o, c ≠ z → c ≠ TO → c ≠ i1 → c ≠ i2 → s.heap.get? c = some o → h'.get? c = some o) → Q none { s with heap := h' }) : wpAny (model prog w) A (pyNext (.ref z)) Q E s := by
  obtain ⟨hTI, h1, h2, hl1, hl2, ⟨a, b, hTO⟩, st⟩ := Z
  rcases st with hz | ⟨T, f, oT, hz, hT, n1, n2, n3, n4, n5⟩
  · exact RZ.pyNext_zipT_end hh D hz hTI hTO h1 h2 hl1 hl2 hend hQ
  · exact pyNext_zipT_end_held hh D hz hT hTI h1 h2 hl1 hl2 hend fun h' hk => hQ h' fun c o c1 c2 c3 c4 => hk c o c1 c3 c4
end
end FL
namespace FL
open PySem PySem.Spec PyProof.Rows L2
def gLstZip : GL := fun ss _ => match ss with
  | [.val (.tuple ds), .val (.tuple es)] => some (.list (zipD ds es))
  | _ => none
@[simp] theorem v_lstZip {ds es : List PyData} {h : Hs} : gLstZip [.val (.tuple ds), .val (.tuple es)] h = some (.list (zipD ds es)) := id rfl
end FL
namespace FL
open PySem PySem.Spec PyProof.Rows L2
theorem tuple_mul0W (l : Addr) (n : Nat) (dd : Option Addr) (sl : Array (Option Value)) (k : Int) (u : Tok) (h0 : 0 ≤ k) (h1 : k ≤ 1000) :
    Meets (Builtin.«tuple.__mul__» ⟨[.ref l, .int k u], []⟩) (fun _ R s => s.heap.get? l = some { cls := .type "tuple", dict := dd, data := .seq #[] n, slots := sl } ∧
      R (.ok (.ret (Value.ref l))) s) :=
  .of_wp fun prog w A R s h => by
    obtain ⟨hp, g, d, tk, os⟩ := s
    obtain ⟨hl, h⟩ := h
    have f1 := AutoSeq1.idx_int
    have c0 : (decide (k < -(2 ^ 63)) || decide (k ≥ 2 ^ 63)) = false := by
      rw [decide_eq_false (by omega), decide_eq_false (by omega)] <;> rfl
    have c1 : ((#[] : Array Value).isEmpty || k == 1) = true := by simp
    wp_walk using wpAny_loadPart' hl
    repeat (first
      | (refine wpAny_ite_false (decide_eq_false (by rw [c0]; exact Bool.false_ne_true)) ?_; wp_walk using wpAny_loadPart' hl)
      | (refine wpAny_ite_true (decide_eq_true (by rw [c1])) ?_; wp_walk using wpAny_loadPart' hl))
    exact ⟨_, rfl, h⟩
def rRepT0 (K : PySem.W.Frag) : R2 := fun x y H Q => ∃ l k, x = .ref l ∧ y = .int k ∧ SqT K H l [] ∧ 0 ≤ k ∧ k ≤ 1000 ∧ Q (.ref l) H
section
variable {X : Cx} {C : Fc}
theorem op_repT0 : OpR X (binaryOp .Mult) (rRepT0 X.K) := by
  intro pins s σ H x y v u Q I rx ry h
  obtain ⟨l, k, rfl, rfl, hT, h0, h1, q⟩ := h
  cases rx
  obtain ⟨t, rfl⟩ := ry
  obtain ⟨its, r, ⟨⟨cls, dd, data, sl⟩, ho, hc, n, hd⟩, hs⟩ := I.tuple hT
  simp only at hc hd
  subst hc hd
  cases r
  refine wpAny_binaryOp_repeat_ref (T := "tuple") (U := "int") (by decide) ⟨_, ho, rfl⟩ (fun s' => typeIs_int s' k t) noFill_tuple_mul F.fills_int_mul F.slot_int_rmul repeat_tuple F.slot_int_index.lookup
    (call_meets F.slot_int_rmul (typeIs_int s k t) F.entry_int_rmul (F.args_int_rmul_2 _ _) (int_rmul_tuple k t l _ n dd sl)
      ⟨ho, rfl, ⟨_, ho, rfl⟩, call_meets F.slot_tuple_mul ⟨_, ho, rfl⟩ F.entry_tuple_mul (F.args_tuple_mul_2 _ _) (tuple_mul0W l n dd sl k t h0 h1) ⟨ho, ?_⟩⟩)
  exact ⟨.ref l, H, I, rfl, q⟩
/-- t * k, the empty tuple too -/
def gMulE : G2 := fun s t h => match s, t with
  | .val (.tuple []), .val (.int k) => if 0 ≤ k ∧ k ≤ 1000 then some (.tuple []) else none
  | s, t => gMul s t h
theorem o_mulE : OpR X (binaryOp .Mult) (rd2 X.K C gMulE) := OpR.imp ((o_mulT (C := C)).or op_repT0) fun x y H Q ⟨ρ, h, s, t, d, S, r1, r2, e, k⟩ => by
  unfold gMulE at e
  split at e
  · rename_i j
    split at e
    · rename_i hq
      cases e
      cases (show Rp X.K H (Mo C ρ) y (.int j) from r2)
      have r1' : Rp X.K H (Mo C ρ) x (.tuple []) := r1
      have rk := k _ H (Ex.refl _ _ _) S r1'
      cases r1' with
      | tup q1 a1 =>
        cases a1
        exact .inr ⟨_, _, rfl, rfl, q1.sq, hq.1, hq.2, rk⟩
    · cases e
  · exact .inl ⟨ρ, h, _, _, d, S, r1, r2, e, k⟩
end
theorem v_mulE {a : List PyData} {h : Hs} (hl : a.length ≤ 1000) : gMulE (.val (.tuple a)) (.val (.int 2)) h = some (.tuple (a ++ a)) := by
  cases a with
  | nil => rfl
  | cons x a =>
    show gMul (.val (.tuple (x :: a))) (.val (.int 2)) h = _
    have := v_mulT (a := x :: a) (k := 2) (h := h) (by simp) (by decide) (by decide) hl
    have e : (List.replicate 2 (x :: a)).flatten = (x :: a) ++ (x :: a) := by simp
    rw [e] at this
    exact this
end FL
namespace FL
open PySem PySem.Spec PyProof.Rows L2 LamX
section
variable {X : Cx} {pins : List (Addr × Obj)} {σ : L2.St} {H HZ : Hp} {s s1 : Shared}
theorem lam_startB {fs fp : List Addr} {A : Around} {outer : List Env} {E : XK} {scope : Scope} {f c' : Addr} {h₁ : Heap} {tk : Nat} (I : Inv X pins σ H s) (L : LamS X.env.scope scope) (e0 : Env0 X.prog X.w X.K X.mg X.base A outer s1 HZ) (hd : A.handled = none)
    (un : Un fs fp H HZ s.heap s1.heap) (hfp : ∀ y c, X.env.cells.lookup y = some c → c ∉ fp) (hns : h₁.Ns s1.heap.objs.size fun y => ([] : List (Str × Value)).reverse.lookup y) (kp : ∀ b o, s1.heap.get? b = some o → h₁.get? b = some o) :
    Inv (lamCx X A outer s1 HZ E scope f c') [] σ HZ { s1 with heap := h₁, toks := tk } := by
  have hfree := L.has I.ok
  have cm : ∀ {y c}, (cloFrom X.env.cells scope.names []).lookup y = some c → X.env.cells.lookup y = some c := fun {y c} e => by
    rcases cloFrom_mem (PySem.mem_of_lookup e) with hm | ⟨h1, h2⟩
    · cases hm
    · obtain ⟨c1, hc⟩ := hfree _ h1 rfl
      have hc : X.env.cells.lookup y = some c1 := hc
      have e2 : c = c1 := by
        rw [h2, hc] <;> rfl
      rw [e2]
      exact hc
  have look : ∀ {y}, scope.names.lookup y = some .free → ∃ c, (cloFrom X.env.cells scope.names []).lookup y = some c := fun {y} hl => by
    have hy : (y, NameKind.free) ∈ scope.names := PySem.mem_of_lookup hl
    exact mem_lookup (cloFrom_has (cells := X.env.cells) (acc := []) hy)
  have cellK : ∀ {c : Addr} {v : Option Value}, H c = none → c ∉ fp → s.heap.IsCell c v → h₁.IsCell c v := fun {c v} n nf ⟨o, ho, hd⟩ => by
    obtain ⟨sl, q⟩ := un.any ho n nf
    exact ⟨_, kp _ _ q, hd⟩
  have noA : ∀ b : Addr, b ∉ (lamCx X A outer s1 HZ E scope f c').ex := fun b z => absurd (show b ∈ ([] : List Addr) from z) (by simp)
  refine ⟨⟨e0.mod, L.kind, rfl, rfl, Nat.le_refl _, fun y z c e1 e2 => I.ok.inj y z c (cm e1) (cm e2), fun y hy => ?_, fun y c z _ => ?_, fun _ => hd, Around.frames_deeper e0.frames, .inr ⟨rfl, rfl⟩, fun b z => absurd z (noA b), e0.bs, e0.bsz, fun b _ _ => noA b,
      fun b z => absurd z (noA b), e0.funs, e0.frf⟩,
    rfl, e0.bare, Un.kept kp, ⟨_, hns, fun i y v e1 e2 e3 => ?_⟩, fun y c e => ?_, e0.hok.fresh (Nat.le_refl _), fun y c e => ?_, fun q hq => absurd (show q ∈ ([] : List (Addr × Obj)) ++ [] from hq) (by simp), e0.hok.kept kp, I.len⟩
  · have hy : scope.names.lookup y = some .cell ∨ scope.names.lookup y = some .free := hy
    rcases hy with hy | hy
    · exact absurd rfl (L.own _ (PySem.mem_of_lookup hy)).2
    · exact look hy
  · have z : false = true := z
    cases z
  · have e3 : Vis scope y := e3
    rcases e3 with k | k | k
    · exact absurd rfl (L.own _ (PySem.mem_of_lookup k)).1
    · exact absurd rfl (L.own _ (PySem.mem_of_lookup k)).2
    · obtain ⟨m, hn, hl⟩ := I.loc
      have hvis : Vis X.env.scope y := (L.free _ (PySem.mem_of_lookup k) rfl).elim (fun k => .inr (.inl k)) (fun k => .inr (.inr k))
      obtain ⟨w', r, q⟩ := hl i y v e1 e2 hvis
      obtain ⟨c2, h2⟩ := look k
      refine ⟨w', r, .inr ⟨.inr k, c2, h2, ?_⟩⟩
      have c1 := cm h2
      rcases q with ⟨k', _⟩ | ⟨_, c3, e', z⟩
      · have k' : X.env.scope.names.lookup y = some .local := k'
        rcases L.free _ (PySem.mem_of_lookup k) rfl with k2 | k2 <;> rw [show X.env.scope.names.lookup y = _ from k2] at k' <;> cases k'
      · rw [c1] at e'
        cases e'
        exact cellK (I.freeC y _ c1) (hfp y _ c1) z
  · obtain ⟨w', z⟩ := I.cell y c (cm e)
    exact ⟨w', cellK (I.freeC y c (cm e)) (hfp y c (cm e)) z⟩
  · obtain ⟨v, o, ho, hd⟩ := I.cell y c (cm e)
    exact un.free c o ho (I.freeC y c (cm e)) (hfp y c (cm e))
/-- a closure's object, held by the letter -/
def CloO (f : Addr) (o : Obj) : HO := .ext fun h => h.get? f = some o
end
section
variable {X : Cx}
theorem lc_coreI {pins : List (Addr × Obj)} {s : Shared} {σ : L2.St} {H : Hp} {Q : VK} {elt tg iter : Expr} {ifs : List Expr} {scope : Scope} {own : List (Str × Nat)} {pos pos' : Pos} {wi : TI} {g : TG} {tt : TT} {te : TE} {use : Option (Value → Sem Unit)} {Qf : Value → Shared → Prop}
    (hc : X.calm = true) (hN : X.N.Nodup) (I : Inv X pins σ H s) (hi : PI X tg iter wi) (ok : BlkOk X.N X.env.scope scope own)
    (hg : ∀ (s : Shared) (H : Hp) (C : Addr) (cl : List (Str × Addr)) (fp : List Addr), PG (X.blk s H scope (compEnvC scope cl C X.env) fp) tg g) (ht : ∀ (s : Shared) (H : Hp) (C : Addr) (cl : List (Str × Addr)) (fp : List Addr), PTs (X.blk s H scope (compEnvC scope cl C X.env) fp) ifs tt)
    (he : ∀ (s : Shared) (H : Hp) (C : Addr) (cl : List (Str × Addr)) (fp : List Addr), Inv X pins σ H s → (∀ b ∈ fp, FpOk X pins H b ∧ b < s.heap.objs.size) → PE (X.blk s H scope (compEnvC scope cl C X.env) fp) elt te) (hs : ∀ x, foldedSetIterable iter X.env x = pure x)
    (h : tLc wi g tt te (own.map (·.2)) σ H Q)
    (hRR : ∀ D C s' m H', Inv X pins σ H' s' → Q (.ref D) H' → s'.heap.Ns C m → FpOk X pins H' C → compPost (model X.prog X.w) X.A X.xe use Qf (.ref D) C (.ok .next) s') :
    wpAny (model X.prog X.w) X.A (comprehension (.ListComp elt [⟨tg, iter, ifs, 0⟩] scope pos) scope X.env pos' (newList []) false (eval iter X.env) use) Qf X.xe s := by
  have hfree : ∀ y ∈ scope.names, y.2 = .free → ∃ c, X.env.cells.lookup y.1 = some c := fun y hy e => by
    rcases ok.free y hy e with k | k
    · exact I.ok.has _ (.inl k)
    · exact I.ok.has _ (.inr k)
  refine wpAny_comprehension_free (use := use) rfl hs (closure_ok hfree) ok.kind (fun y hy e => by rw [ok.uniq y hy, e])
    (thn (hi.run pins s σ H _ I h) fun xv s1 hx => thn hx fun itv s2 h2 => ?_)
  obtain ⟨it, fp, tn, J, H2, e, I2, T, st2, f2, q⟩ := h2
  subst e
  refine wpAny_newObj_type (newEnv_comp ?_) (by show 0 ≤ sizeLine; decide)
  generalize hD : s2.heap.objs.size = D
  have hDn : H2 D = none := I2.hok.fresh (Nat.le_of_eq hD)
  obtain ⟨W, ⟨m0, w0⟩, turn⟩ := q D hDn
  -- the new list
  generalize hs3 : ({ s2 with heap := s2.heap.push { cls := .type "list", data := .seq ([] : List Value).toArray } } : Shared) = s3
  have I3 : Inv X pins σ (upd H2 D (.lst [])) s3 := by
    rw [← hs3]
    refine I2.laid (t' := s2.toks) (fun b o e => Heap.get?_push_of_some _ e) (Nat.le_of_eq hD) ⟨Nat.zero_le _, [], 0, .nil, ?_⟩
    rw [← hD]
    exact Heap.get?_push_size _ rfl
  have h3 : s3.heap = s2.heap.push { cls := .type "list", data := .seq ([] : List Value).toArray } := by rw [← hs3]
  have sz : ∀ b ∈ fp, b < s2.heap.objs.size := fun b hb => by
    obtain ⟨o, e, _⟩ := T.obj _ _ st2 b hb
    exact Heap.lt_size e
  have f3 : ∀ b ∈ fp, FpOk X pins (upd H2 D (.lst [])) b ∧ b < s3.heap.objs.size := fun b hb => by
    have hlt := sz b hb
    refine ⟨⟨?_, (f2 b hb).2⟩, by rw [h3, Heap.size_push]; exact Nat.lt_succ_of_lt hlt⟩
    rw [upd_ne (by rw [← hD]; exact Nat.ne_of_lt hlt)]
    exact (f2 b hb).1
  have st3 : tn 0 s3.heap := T.keep _ _ _ st2 fun b _ o e => by rw [h3]; exact Heap.get?_push_of_some _ e
  have I4 := block_start I3 ok hN f3
  have pg := hg s3 (upd H2 D (.lst [])) s3.heap.objs.size (cellsFrom (s3.heap.objs.size + 1) scope.names (cloFrom X.env.cells scope.names [])) fp
  have pt := ht s3 (upd H2 D (.lst [])) s3.heap.objs.size (cellsFrom (s3.heap.objs.size + 1) scope.names (cloFrom X.env.cells scope.names [])) fp
  have pe := he s3 (upd H2 D (.lst [])) s3.heap.objs.size (cellsFrom (s3.heap.objs.size + 1) scope.names (cloFrom X.env.cells scope.names [])) fp I3 f3
  show codeAny _ _ (.compStart (.ListComp elt [⟨tg, iter, ifs, 0⟩] scope pos) 0 (.ref it) (.ref D) (compEnvC scope (cellsFrom (s3.heap.objs.size + 1) scope.names (cloFrom X.env.cells scope.names [])) s3.heap.objs.size X.env)) (compPost (model X.prog X.w) X.A X.xe use Qf (.ref D) s3.heap.objs.size) { s3 with heap := pushCells (s3.heap.push { cls := .type "dict", data := .dict #[] }) scope.names }
  have nfp : ∀ b ∈ fp, (upd H2 D (.lst [])) b = none := fun b hb => (f3 b hb).1.1
  generalize hce : compEnvC scope (cellsFrom (s3.heap.objs.size + 1) scope.names (cloFrom X.env.cells scope.names [])) s3.heap.objs.size X.env = ce at I4 pg pt pe ⊢
  have cL : ce.locals = s3.heap.objs.size := by subst hce; rfl
  generalize hH3 : upd H2 D (.lst []) = H3 at I3 I4 pg pt pe w0 nfp f3
  generalize hs4 : ({ s3 with heap := pushCells (s3.heap.push { cls := .type "dict", data := .dict #[] }) scope.names } : Shared) = s4 at I4 ⊢
  have st4 : tn 0 s4.heap := T.keep _ _ _ st3 fun b _ o e => by rw [← hs4]; exact pushCells_keeps _ _ _ _ (Heap.get?_push_of_some _ e)
  have stat : ∀ {σ' : St} {H' : Hp} {s' : Shared}, Inv (X.blk s3 H3 scope ce fp) [] σ' H' s' → (∀ b ∈ fp, H' b = none) → ∀ b ∈ fp, FpOk (X.blk s3 H3 scope ce fp) [] H' b := fun {σ' H' s'} I' hn b hb =>
    ⟨hn b hb, (I'.ok.exf b hb).1, I'.ok.exfs b hb, .inl hb, fun x c e => (I'.ok.exf b hb).2 x c e, fun p hp => absurd (show p ∈ ([] : List (Addr × Obj)) ++ [] from hp) (by simp)⟩
  have loop : codeAny (model X.prog X.w) X.A (.compLoop (.ListComp elt [⟨tg, iter, ifs, 0⟩] scope pos) 0 (.ref it) (.ref D) ce) (compPost (model X.prog X.w) X.A X.xe use Qf (.ref D) s3.heap.objs.size) s4 := by
    refine compLoop_any (fun n s' => ∃ i H', Inv (X.blk s3 H3 scope ce fp) [] (wipe σ (own.map (·.2))) H' s' ∧ tn i s'.heap ∧ (∀ b ∈ fp, H' b = none) ∧ W i n H') ?_ m0 ⟨0, H3, I4, st4, nfp, w0⟩
    rintro n s5 ⟨i, H5, I5, st5, n5, w5⟩
    rcases turn i n H5 w5 with ⟨stop, qq⟩ | ⟨go, Nx, hNx, step⟩
    · have td := T.done (X.blk s3 H3 scope ce fp) rfl rfl rfl hc i [] s5 _ H5 (fun _ _ => False) I5 (stat I5 n5) st5 stop
      refine thnF td fun r s6 ⟨hr, I6⟩ => ?_
      subst hr
      -- back in the def's context
      have I7 : Inv X pins σ H5 s6 := I3.call' (ch := fp) I6.os I6.base I6.hok I6.bare fun b hb => ⟨(f3 b hb).1.2.2.2.1, (f3 b hb).1.2.1, (f3 b hb).1.2.2.2.2.1, (f3 b hb).1.2.2.2.2.2⟩
      have nC : H5 s3.heap.objs.size = none := by
        have z : H5 ce.locals = none := I6.free
        rw [cL] at z
        exact z
      obtain ⟨m, hn, _⟩ := I6.loc
      have hn : s6.heap.Ns ce.locals m := hn
      rw [cL] at hn
      exact hRR D s3.heap.objs.size s6 m H5 I7 qq hn (I3.fpOk (Nat.le_refl _) nC)
    · have ti := T.item (X.blk s3 H3 scope ce fp) rfl rfl rfl hc i [] s5 _ H5 (fun _ _ => False) I5 (stat I5 n5) st5 go
      refine thnF ti fun r s6 ⟨u, hr, h6⟩ => ?_
      subst hr
      refine thnF h6 fun _ s7 ⟨x, H7, I7, r7, y7, st7, n7⟩ => ?_
      have I7' := I7.pinned (stat I7 n7) (T.obj _ _ st7)
      refine thnF (pg.run _ s7 _ H7 x u _ I7' r7 (step x H7 y7)) fun _ s8 ⟨σ8, H8, I8, hw8, q8⟩ => ?_
      refine thnF (pt.run _ s8 σ8 H8 _ I8 q8) fun b s9 ⟨H9, I9, q9⟩ => ?_
      -- the turn's end
      have fin : ∀ {s' : Shared} {H' : Hp}, Inv (X.blk s3 H3 scope ce fp) ([] ++ pinsAt fp s7.heap) σ8 H' s' → Nx H' → ∃ m, m < n ∧ ∃ i H', Inv (X.blk s3 H3 scope ce fp) [] (wipe σ (own.map (·.2))) H' s' ∧ tn i s'.heap ∧ (∀ b ∈ fp, H' b = none) ∧ W i m H' := fun {s' H'} I' nx => by
        obtain ⟨m', hm, w'⟩ := hNx H' nx
        have pin' : ∀ b ∈ fp, ∀ o, s7.heap.get? b = some o → s'.heap.get? b = some o ∧ H' b = none := fun b hb o e =>
          let z := I'.pin (b, o) (List.mem_append_right _ (List.mem_append_right _ (mem_pinsAt hb e)))
          ⟨z.1, z.2.1⟩
        have hl : (wipe σ (own.map (·.2))).length = σ8.length := by rw [← hw8, wipe_length]
        refine ⟨m', hm, i + 1, H', (I'.unpinned (pins := [])).weak hl (fun j v e => ?_), T.keep _ _ _ st7 fun b hb o e => (pin' b hb o e).1, fun b hb => ?_, w'⟩
        · rw [← hw8] at e
          exact (wipe_some e).1
        · obtain ⟨o, e, _⟩ := T.obj _ _ st7 b hb
          exact (pin' b hb o e).2
      cases b with
      | false =>
        simp only [Bool.false_eq_true, if_false] at q9 ⊢
        exact fin I9 q9
      | true =>
        simp only [if_true] at q9 ⊢
        refine thnF (pe.run _ s9 σ8 H9 _ I9 q9) fun z s10 ⟨yv, H10, I10, r10, acc, hD10, hz10, nx⟩ => ?_
        exact app_ok (X := X.blk s3 H3 scope ce fp) I10 hD10 hz10 r10 fun s11 I11 => fin I11 nx
  exact codeAny_compStart_list loop (T.self X.A 0 _ _ _ st4 loop)
end
end FL
namespace FL
open PySem PySem.Spec PyProof.Rows L2
section
variable {X : Cx} {pins : List (Addr × Obj)} {σ : L2.St} {H : Hp} {s : Shared}
/-- as lam_made, the closure's object held by the letter -/
theorem lam_madeH {T : List (Addr × Str)} {c P : Addr} {params : Arguments} {body : Expr} {scope : Scope} {pos : Pos} {E Q : Value → Shared → Prop} (I : Inv X pins σ H s) (TB : LamX.TabB X.base X.mg c P) (hcode : X.env.code = .ref c)
    (hm : (P, X.env.qual ++ "<lambda>") ∈ T) (hu : ∀ p ∈ T, p.1 = P → p.2 = X.env.qual ++ "<lambda>") (hT : LamX.Tabs T H) (hdef : defaultsOf params X.env = ([], [])) (hfree : ∀ y ∈ scope.names, y.2 = .free → ∃ c, X.env.cells.lookup y.1 = some c)
    (h : ∀ (f c' : Addr) (pm ctv : Value) (H1 : Hp) (s' : Shared), Inv X pins σ (upd H1 f (CloO f (PySem.W.kla_obj "<lambda>" (X.env.qual ++ "<lambda>") params body scope (cloFrom X.env.cells scope.names []) pm c' ctv))) s' → (H1 = H ∨ ∃ ps ps' : Array Value, H P = some (.tbl ps) ∧ H c' = none ∧ H1 = upd (upd H P (.tbl ps')) c' (LamX.CodeO c' (X.env.qual ++ "<lambda>"))) → LamX.Tabs T H1 →
      H1 f = none → f ∉ frs X.stack → H1 c' = some (LamX.CodeO c' (X.env.qual ++ "<lambda>")) → Q (.ref f) s') :
    wpAny (model X.prog X.w) X.A (eval (.Lambda params body scope pos) X.env) Q E s := by
  obtain ⟨ps, hP, tri, known⟩ := hT _ hm
  have atP : s.heap.get? P = some { cls := .none, data := .fields ps } := I.hok P _ hP
  have bP : s.heap.BuiltinsAt X.mg P := TB.bm.keeps I.bk
  have apart : ∀ f, s.heap.objs.size ≤ f → f ∉ frs X.stack := fun f hf z => by
    rcases List.mem_cons.mp (I.stkSub _ z) with e | e
    · exact absurd I.lt (by rw [← e]; exact Nat.not_lt.mpr hf)
    · exact I.nofs hf e
  refine PySem.W.kla_eval hdef ?_
  cases q : codeAmong pos ps.toList with
  | some cv =>
    obtain ⟨c', rfl, co⟩ := known pos cv q
    refine PySem.W.kla_makeFunctionHit (mg := X.mg) (c := c) (P := P) (ps := ps) (closure_ok hfree) I.ok.glob (I.mod.glob.keeps I.bk) hcode (TB.code.keeps I.bk) atP tri q bP fun ctv h' tk hx hsz => ?_
    refine h h'.objs.size c' ((X.mg "__name__").getD .none) ctv H _ ?_ (.inl rfl) hT (I.hok.fresh hsz) (apart _ hsz) co
    exact I.laid (fun b o e => Heap.get?_push_of_some _ (hx b o e)) hsz ⟨Heap.get?_push_size _ rfl, ⟨_, Heap.get?_push_size _ rfl⟩, fun h1 h2 e1 e2 => e2 _ e1⟩
  | none =>
    refine PySem.W.kla_makeFunction (mg := X.mg) (c := c) (P := P) (ps := ps) (closure_ok hfree) I.ok.glob (I.mod.glob.keeps I.bk) hcode (TB.code.keeps I.bk) atP tri q TB.gP bP fun c' ctv h' tk hx hge hlt hrec htb => ?_
    obtain ⟨c2, oc, vs, t, ec, hoc, hd, hv⟩ := hrec
    cases ec
    have nC : H c' = none := I.hok.fresh hge
    have sz : s.heap.objs.size ≤ h'.objs.size := Nat.le_trans hge (Nat.le_of_lt hlt)
    have I1 := LamX.inv_table (t' := tk) (more := #[rawInt pos.line, rawInt pos.col, .ref c']) (h' := h') I hP
      (fun b o hb e => hx b o hb e) htb hge ⟨oc, vs, t, hoc, hd, hv⟩
    have I2 := I1.laid (t' := tk) (a := h'.objs.size) (h' := h'.push (PySem.W.kla_obj "<lambda>" (X.env.qual ++ "<lambda>") params body scope (cloFrom X.env.cells scope.names []) ((X.mg "__name__").getD .none) c' ctv)) (o := CloO h'.objs.size (PySem.W.kla_obj "<lambda>" (X.env.qual ++ "<lambda>") params body scope (cloFrom X.env.cells scope.names []) ((X.mg "__name__").getD .none) c' ctv)) (fun b o e => Heap.get?_push_of_some _ e) (Nat.le_refl _) ⟨Heap.get?_push_size _ rfl, ⟨_, Heap.get?_push_size _ rfl⟩, fun h1 h2 e1 e2 => e2 _ e1⟩
    have nPc : P ≠ c' := ne_of_none hP nC
    have el : (ps ++ #[rawInt pos.line, rawInt pos.col, .ref c']).toList = ps.toList ++ [rawInt pos.line, rawInt pos.col, .ref c'] := by simp
    have old : ∀ b q, H b = some (LamX.CodeO b q) → upd (upd H P (.tbl (ps ++ #[rawInt pos.line, rawInt pos.col, .ref c']))) c' (LamX.CodeO c' (X.env.qual ++ "<lambda>")) b = some (LamX.CodeO b q) := fun b q e => by
      rw [upd_ne (ne_of_none e nC), upd_ne (fun z => by rw [z, hP] at e; exact LamX.codeO_ne ps (Option.some.inj e).symm)]
      exact e
    refine h h'.objs.size c' ((X.mg "__name__").getD .none) ctv _ _ I2 (.inr ⟨ps, _, hP, nC, rfl⟩) (fun p hp => ?_) ?_ (apart _ sz) upd_same
    · by_cases hb : p.1 = P
      · rw [hu p hp hb, hb]
        refine ⟨_, by rw [upd_ne nPc, upd_same], by rw [el]; exact PySem.TriplesOk_snoc _ _ _ _ tri, fun p' cv hcv => ?_⟩
        rw [el] at hcv
        rcases LamX.among_app _ tri hcv with z | z
        · obtain ⟨c1, rfl, e2⟩ := known p' cv z
          exact ⟨c1, rfl, old c1 _ e2⟩
        · exact ⟨c', z, upd_same⟩
      · obtain ⟨ps', a1, a2, a3⟩ := hT p hp
        refine ⟨ps', by rw [upd_ne (ne_of_none a1 nC), upd_ne hb]; exact a1, a2, fun p' cv hcv => ?_⟩
        obtain ⟨c1, rfl, e2⟩ := a3 p' cv hcv
        exact ⟨c1, rfl, old c1 _ e2⟩
    · rw [upd_ne (Nat.ne_of_gt hlt), upd_ne (Nat.ne_of_gt (Nat.lt_of_lt_of_le (Heap.lt_size atP) sz))]
      exact I.hok.fresh sz
end
end FL
namespace FL
open PySem PySem.Spec PyProof.Rows L2
section
variable {X : Cx}
/-- the closure's object -/
abbrev cloX (X : Cx) (params : Arguments) (body : Expr) (scope : Scope) (pm : Value) (c' : Addr) (ctv : Value) : Obj := PySem.W.kla_obj "<lambda>" (X.env.qual ++ "<lambda>") params body scope (cloFrom X.env.cells scope.names []) pm c' ctv
/-- a closure as a value: what it wants of the heap, what it leaves -/
def tClo (X : Cx) (T : List (Addr × Str)) (P : Addr) (params : Arguments) (body : Expr) (scope : Scope) : TE := fun σ H Q => LamX.Tabs T H ∧ ∀ (f c' : Addr) (pm ctv : Value) (H1 : Hp), Made H P c' (X.env.qual ++ "<lambda>") H1 → LamX.Tabs T H1 → H1 f = none → f ∉ frs X.stack →
  H1 c' = some (LamX.CodeO c' (X.env.qual ++ "<lambda>")) → Q (.ref f) (upd H1 f (CloO f (cloX X params body scope pm c' ctv)))
theorem pe_clo {T : List (Addr × Str)} {c P : Addr} {params : Arguments} {body : Expr} {scope : Scope} {pos : Pos} (TB : LamX.TabB X.base X.mg c P) (hcode : X.env.code = .ref c)
    (hm : (P, X.env.qual ++ "<lambda>") ∈ T) (hu : ∀ p ∈ T, p.1 = P → p.2 = X.env.qual ++ "<lambda>") (hdef : defaultsOf params X.env = ([], [])) (L : LamX.LamS X.env.scope scope) :
    PE X (.Lambda params body scope pos) (tClo X T P params body scope) := by
  refine ⟨fun pins s σ H Q I h => ?_⟩
  obtain ⟨hT, h⟩ := h
  exact lam_madeH I TB hcode hm hu hT hdef (L.has I.ok) fun f c' pm ctv H1 s' I' md T1 hfn hfr hco => ⟨.ref f, _, I', rfl, h f c' pm ctv H1 md T1 hfn hfr hco⟩
end
end FL
namespace FL
open PySem PySem.Spec PyProof.Rows L2
section
variable {X : Cx} {pins : List (Addr × Obj)} {σ : L2.St} {H : Hp} {s : Shared}
/-- lam_act from within a block of the def that made the closure -/
theorem lam_actB {scC : Scope} {ce : Env} {fp : List Addr} {pinsB : List (Addr × Obj)} {σB : L2.St} {HB : Hp} {sB : Shared} {CZ : CXT} {EZ : XK} {NZ : List Str} {qZ : Str} {sZ : Scope} {g f c' : Addr} {cdZ pm ctv : Value} {params : Arguments} {body : Expr} {scope : Scope} {k i : Nat} {a : Str} {pn : List (Addr × Obj)} {xe : Value → Shared → Prop} {W : WX} {tb : XK → TE} {p1 p2 : Pos}
    (I : Inv X pins σ H s) (hfp : ∀ y c, X.env.cells.lookup y = some c → c ∉ fp) (JB : Inv (X.blk s H scC ce fp) pinsB σB HB sB) (L : LamX.LamS X.env.scope scope)
    (hbind : bindArgs (PySem.W.kla_fn "<lambda>" (X.env.qual ++ "<lambda>") params body scope (cloFrom X.env.cells scope.names []) pm (.ref c') ctv) ⟨[], []⟩ = pure [])
    (tk : Takes ((cxOf CZ X.prog X.w X.K X.mg X.base NZ qZ sZ g cdZ (X.blk s H scC ce fp).A (X.blk s H scC ce fp).stack sB HB EZ).tr pn xe) W) (hr : Room (k + 1) ((X.blk s H scC ce fp).A.deeper (envOfC qZ sZ sB.heap.objs.size g cdZ)))
    (hbody : ∀ (E : XK) (A : Around) (outer : List Env) (s : Shared) (H : Hp), A.guards = X.A.guards → Room k (A.deeper (LamX.lamEnv X scope s.heap.objs.size f c')) → PE (LamX.lamCx X A outer s H E scope f c') body (tb E))
    (hN : NZ[i]? = some a) (hv : Vis sZ a) (hd : (a == ("__debug__" : Str)) = false := by decide) (hcd : (a == ("__classdict__" : Str)) = false := by decide) :
    PE ((cxOf CZ X.prog X.w X.K X.mg X.base NZ qZ sZ g cdZ (X.blk s H scC ce fp).A (X.blk s H scC ce fp).stack sB HB EZ).tr pn xe) (.Call (.Name a p1) [] [] p2) fun τ G Q => τ[i]? = some (some (.ref f)) ∧ G f = some (CloO f (PySem.W.kla_obj "<lambda>" (X.env.qual ++ "<lambda>") params body scope (cloFrom X.env.cells scope.names []) pm c' ctv)) ∧ G c' = some (LamX.CodeO c' (X.env.qual ++ "<lambda>")) ∧ tb (fun cls d G' => W cls d τ G') σ G Q := by
  constructor
  rintro pz s0 τ G Q J ⟨at_, hfe, co, rd_⟩
  refine wpAny_Call_Name_kw (thn ((pe_var (pos := p1) (i := i) hN hv hd hcd).run pz s0 τ G (fun v G1 => v = .ref f ∧ G1 = G) J ⟨_, at_, rfl, rfl⟩) ?_)
  rintro u s1 ⟨v, G1, J1, rv, rfl, rfl⟩
  cases (show u = Value.ref f from rv)
  have here : s1.heap.get? f = some (PySem.W.kla_obj "<lambda>" (X.env.qual ++ "<lambda>") params body scope (cloFrom X.env.cells scope.names []) pm c' ctv) := (J1.hok f _ hfe).1
  have rc : codeAny (model X.prog X.w) ((X.blk s H scC ce fp).A.deeper (envOfC qZ sZ sB.heap.objs.size g cdZ)) (.call (.ref f) ⟨[], []⟩) (CR (L2.CX X.prog X.w) (envOfC qZ sZ sB.heap.objs.size g cdZ :: (X.blk s H scC ce fp).stack) X.prog X.w G1 s1 Q fun cls d G' => W cls d τ G') s1 := by
    obtain ⟨⟨oc, us, t, hoc, hdc, hvc⟩, _, _⟩ := J1.hok c' _ co
    refine PySem.W.kla_callFunE hr.depth here rfl L.co L.gen rfl ⟨c', oc, us, t, rfl, hoc, hdc, hvc⟩ ?_
    rw [hbind]
    refine wpAny_pure (wpAny_newFunctionEnv (fun y hy => (L.own y hy).2) (fun y hy => nomatch hy) ?_ L.kind)
    intro h1 hns hsb
    refine ⟨J1.nolimit.fresh _ hsb, ?_⟩
    have up : ∀ b o, s1.heap.get? b = some o → h1.get? b = some o := fun b o e => hsb.extBut b o (Nat.ne_of_lt (Heap.lt_size e)) (Heap.get?_push_of_some _ e)
    have K1 := lam_startB (A := (X.blk s H scC ce fp).A.deeper (envOfC qZ sZ sB.heap.objs.size g cdZ)) (outer := envOfC qZ sZ sB.heap.objs.size g cdZ :: (X.blk s H scC ce fp).stack) (E := fun cls d G' => W cls d τ G') (f := f) (c' := c') (tk := s1.toks + ([] : List (Str × Value)).length) I L J1.env0 hr.hd ((JB.base.mono (fs' := frs (X.blk s H scC ce fp).stack) (ex' := fp) (fun b z => z) (fun b z => z)).trans (J1.base.mono (fs' := frs (X.blk s H scC ce fp).stack) (ex' := fp) (fun b z => z) (fun b z => nomatch (show b ∈ ([] : List Addr) from z)))) hfp hns up
    refine PySem.W.kla_codeExpr (wpAny_mono ((hbody _ ((X.blk s H scC ce fp).A.deeper (envOfC qZ sZ sB.heap.objs.size g cdZ)) _ s1 G1 rfl (hr.deeper _)).run [] _ σ G1 Q K1 rd_) ?_ fun _ _ z => z)
    rintro v s' ⟨v', G', J', rv, q⟩
    exact ⟨v', G', J'.os, J'.bare, J'.base, J'.hok, rv, q⟩
  refine PySem.W.callWith_F0 ⟨_, _, _, _, here⟩ (wpAny_call (codeAny_mono rc ?_))
  rintro (er | fl) s' hq
  · exact tk _ s' (XE.of_call J1 (fun _ _ _ z => z) hq)
  · cases fl with
    | ret u => exact J1.after hq
    | _ => exact False.elim hq
end
section
variable {X : Cx} {C : Fc} {Wx : WX}
/-- fe_act so -/
theorem fe_actB {H : Hp} {s : Shared} {scC : Scope} {ce : Env} {fp : List Addr} {pinsB : List (Addr × Obj)} {σB : L2.St} {HB : Hp} {sB : Shared} {pins : List (Addr × Obj)} {σ : L2.St} {ρ : Fps} {env : En} {h : Hs} {CZ : CXT} {EZ : XK} {NZ : List Str} {qZ : Str} {sZ : Scope} {g f c' : Addr} {cdZ pm ctv : Value} {params : Arguments} {body : Expr} {scope : Scope} {k : Nat} {a : Str} {pn : List (Addr × Obj)} {xe : Value → Shared → Prop} {W : WX} {p1 p2 : Pos} {fe : Ev}
    (S : SimH X.K C ρ h HB) (Ev_ : EnvOk X.K C ρ HB env σ)
    (I : Inv X pins σ H s) (hfp : ∀ y c, X.env.cells.lookup y = some c → c ∉ fp) (JB : Inv (X.blk s H scC ce fp) pinsB σB HB sB) (L : LamX.LamS X.env.scope scope) (hfe : HB f = some (CloO f (PySem.W.kla_obj "<lambda>" (X.env.qual ++ "<lambda>") params body scope (cloFrom X.env.cells scope.names []) pm c' ctv)))
    (hco : HB c' = some (LamX.CodeO c' (X.env.qual ++ "<lambda>")))
    (hbind : bindArgs (PySem.W.kla_fn "<lambda>" (X.env.qual ++ "<lambda>") params body scope (cloFrom X.env.cells scope.names []) pm (.ref c') ctv) ⟨[], []⟩ = pure [])
    (tk : Takes ((cxOf CZ X.prog X.w X.K X.mg X.base NZ qZ sZ g cdZ (X.blk s H scC ce fp).A (X.blk s H scC ce fp).stack sB HB EZ).tr pn xe) W) (hr : Room (k + 1) ((X.blk s H scC ce fp).A.deeper (envOfC qZ sZ sB.heap.objs.size g cdZ)))
    (hbody : ∀ (C' : Fc) (_ : C'.T = C.T) (E : XK) (A : Around) (outer : List Env) (s : Shared) (H : Hp), A.guards = X.A.guards → Room k (A.deeper (LamX.lamEnv X scope s.heap.objs.size f c')) → FE (LamX.lamCx X A outer s H E scope f c') C' (Wq E) body fe)
    (hN : NZ[0]? = some a) (hv : Vis sZ a) (hd : (a == ("__debug__" : Str)) = false := by decide) (hcd : (a == ("__classdict__" : Str)) = false := by decide) :
    FE ((cxOf CZ X.prog X.w X.K X.mg X.base NZ qZ sZ g cdZ (X.blk s H scC ce fp).A (X.blk s H scC ce fp).stack sB HB EZ).tr pn xe) ⟨HB, ρ, C.Bar, C.T, some (f, exD)⟩ W (.Call (.Name a p1) [] [] p2) (eAct fe env) := by
  refine PE.imp (lam_actB (pm := pm) (ctv := ctv) (f := f) (c' := c') (i := 0) (tb := fun E σ G Q => ∃ C3 : Fc, C3.T = C.T ∧ rd X.K X.mg C3 (Wq E) (relE X.K C3) fe σ G Q) I hfp JB L hbind tk hr (fun E A outer s H hg hr' => ⟨fun pz s' τ G Q J ⟨C3, e3, q⟩ => (hbody C3 e3 E A outer s H hg hr').run pz s' τ G Q J q⟩) hN hv hd hcd) ?_
  rintro τ G Q ⟨ρ2, e2, h2, S2, E2, P2⟩
  have P3 : Po X.K X.mg ⟨HB, ρ, C.Bar, C.T, some (f, exD)⟩ W τ ρ2 G (relE X.K ⟨HB, ρ, C.Bar, C.T, some (f, exD)⟩) (match e2[0]? with
    | some (some (Sl.exn _)) => (match fe env h2 with
      | .ok (.val d) h' => (.ok (.val d) h' : Rz Sl)
      | .err x h' => .err x h'
      | _ => .bad)
    | _ => .bad) Q := P2
  split at P3
  · rename_i y ey
    obtain ⟨v, ev, a', ea, rfl⟩ := E2.at_ 0 _ ey
    cases ea
    have x2 : Ex C ρ HB ρ2 G := S2.seen (C := C) rfl rfl rfl
    refine ⟨ev, S2.fr hfe (S.noExt hfe) (fun _ z => nomatch z), S2.fr hco (S.noExt hco) (fun _ z => nomatch z), ⟨HB, ρ, C.Bar, C.T, C.exc⟩, rfl, ρ2, env, h2, S2.cong rfl rfl rfl rfl, EnvOk.cong (C := C) rfl rfl (Ev_.ex x2), ?_⟩
    have xc : ∀ {ρ3 : Fps} {G3 : Hp}, Ex ⟨HB, ρ, C.Bar, C.T, C.exc⟩ ρ2 G ρ3 G3 → Ex ⟨HB, ρ, C.Bar, C.T, some (f, exD)⟩ ρ2 G ρ3 G3 := fun x => Ex.cong (C := ⟨HB, ρ, C.Bar, C.T, C.exc⟩) (C' := ⟨HB, ρ, C.Bar, C.T, some (f, exD)⟩) rfl x
    cases q : fe env h2 with
    | bad => rw [q] at P3; exact P3.elim
    | err x h' =>
      rw [q] at P3
      intro ρ3 G3 cls d x3 S3 xn
      exact P3 ρ3 G3 cls d (xc x3) (S3.cong rfl rfl rfl rfl) xn
    | ok s h' =>
      rw [q] at P3
      cases s with
      | val d =>
        intro ρ3 u G3 x3 S3 r3
        exact P3 ρ3 u G3 (xc x3) (S3.cong rfl rfl rfl rfl) r3
      | loc n => exact P3.elim
      | inn n i => exact P3.elim
      | exn x => exact P3.elim
      | pr _ _ => exact P3.elim
  · exact P3.elim
end
end FL
namespace FL
open PySem PySem.Spec PyProof.Rows L2
section
variable {X : Cx} {C : Fc} {Wx : WX}
/-- fe_said's call, the closure made before, the call within a block -/
theorem pe_saidB {s : Shared} {H : Hp} {scC : Scope} {ce : Env} {fp : List Addr} {pins : List (Addr × Obj)} {σ : L2.St} {x : Str} {iv : Nat} {T : List (Addr × Str)} {g fw : Addr} {stS : Stmt} {fdS fdw : FuncData} {k kw : Nat} {pw : Str} {ys R : List Str} {mw : Exn → Option PyData} {tup : Bool} {params : Arguments} {body : Expr} {scope : Scope} {fe : Ev} {p q pos : Pos}
    (B : SaidOk X T kw g fw stS fdS fdw pw ys R mw tup) (hT : C.T = T) (hgd : X.A.guards = some []) (hr : Room (k + 2) X.A) (hkw : kw ≤ k + 1) (I : Inv X pins σ H s) (hfp : ∀ y c, X.env.cells.lookup y = some c → c ∉ fp)
    (L : LamX.LamS X.env.scope scope) (hN : X.N[iv]? = some x) (hvB : Vis ce.scope x) (hgB : Gl (X.blk s H scC ce fp) "_law_said") (hxd : (x == ("__debug__" : Str)) = false) (hxc : (x == ("__classdict__" : Str)) = false)
    (hbind : ∀ (q : Str) (cl : List (Str × Addr)) (pm cv ctv : Value), bindArgs (PySem.W.kla_fn "<lambda>" q params body scope cl pm cv ctv) ⟨[], []⟩ = pure [])
    (hbody : ∀ (f c' : Addr) (C' : Fc) (_ : C'.T = T) (E : XK) (A : Around) (outer : List Env) (s : Shared) (H : Hp), A.guards = some [] → Room k (A.deeper (LamX.lamEnv X scope s.heap.objs.size f c')) → FE (LamX.lamCx X A outer s H E scope f c') C' (Wq E) body fe) :
    PE (X.blk s H scC ce fp) (.Call (.Name "_law_said" p) [.Name x q] [] pos) (fun σB HB Q => ∃ (f c' : Addr) (pm ctv : Value) (ρ : Fps) (env : En) (h : Hs), σB[iv]? = some (some (.ref f)) ∧ HB f = some (CloO f (PySem.W.kla_obj "<lambda>" (X.env.qual ++ "<lambda>") params body scope (cloFrom X.env.cells scope.names []) pm c' ctv)) ∧ HB c' = some (LamX.CodeO c' (X.env.qual ++ "<lambda>")) ∧ SimH X.K C ρ h HB ∧ EnvOk X.K C ρ HB env σ ∧ Po X.K X.mg C Wx σ ρ HB (relE X.K C) (eSaid tup R mw fe env h) Q) := by
  subst hT
  constructor
  rintro pinsB sB σB HB Q JB ⟨f, c', pm, ctv, ρ, env, h, hτ, hfe, hco, S, E0, P0⟩
  obtain ⟨oc, od, kV, doc, pm, an, cdv, ct, osl, efd, lk, hcd⟩ := B.fun_.ex
  obtain ⟨j, kt, ret, q1, q2, q3, q4, q5, q6, q7, q8, q9, hret, ebody⟩ := B.body
  obtain ⟨CW, hCW, hX⟩ := B.way
  refine wpAny_Call_Name_kw (ld_glob (X := (X.blk s H scC ce fp)) JB hgB B.mg ?_ (by decide))
  have hA : PA (X.blk s H scC ce fp) [.Name x q] (tCons (tVar iv) tNil) := pa_cons (pe_var (X := (X.blk s H scC ce fp)) hN hvB hxd hxc) pa_nil (by rfl)
  refine PySem.W.callWith_K (h₀ := X.base) JB.ok.mod.kin B.fun_.kp (thn (hA.run pos pinsB sB σB HB (fun vs G1 => vs = [.ref f] ∧ G1 = HB) JB ⟨_, hτ, rfl, rfl⟩) ?_) (by rfl) (by rfl)
  rintro us s1 ⟨vs, G1, J1, rr, rfl, rfl⟩
  obtain ⟨u, rfl, ru⟩ := Vals.one rr
  cases (show u = Value.ref f from ru)
  have S2 : SimH X.K ⟨G1, ρ, C.Bar, C.T, some (f, exD)⟩ ρ h G1 := S.sub.cong rfl rfl rfl rfl
  have rc : codeAny (model X.prog X.w) X.A (.call (.ref g) ⟨[.ref f], []⟩) (CR (L2.CX X.prog X.w) X.stack X.prog X.w G1 s1 Q fun _ _ _ => False) s1 := by
    subst efd
    refine LamX.run_ofS (N := ["_law_call", "_law_e"]) (ps := ["_law_call"]) (us := [.ref f]) (vs := [.ref f]) (k := k + 1) lk hcd B.sc hr J1.env0 (B.bS s1 [.ref f] J1.kIn rfl) (.cons rfl .nil) rfl fun hr' => ?_
    refine ⟨fun D τ G => rdS X.K X.mg ⟨G1, ρ, C.Bar, C.T, some (f, exD)⟩ (wAs X.K (.ref CW) 1 (tsSaid X.K X.mg C.T ys mw tup) (fun _ _ _ _ => False) D) (sRet (eTup (aCons (eK (.str "told")) (aCons (eAct fe env) aNil)))) D τ G, ?_, ?_⟩
    · rw [ebody]
      refine pss_one (ps_try_as (i := 1) (c := .ref CW) (Wout := fun _ _ _ _ => False) (tb := fun W => rdS X.K X.mg ⟨G1, ρ, C.Bar, C.T, some (f, exD)⟩ W (sRet (eTup (aCons (eK (.str "told")) (aCons (eAct fe env) aNil))))) (ts := tsSaid X.K X.mg C.T ys mw tup)
        rfl rfl B.sc.nd rfl B.sl1 ⟨B.gW, by decide, .inl hCW⟩ LamX.takes0 (fun W pn xe tk _ => ?_) fun a oe cls dd pn hz hfi => ?_)
      · exact fss_one (fs_ret (fe_tup (fa_cons fe_str (fa_cons (fe_actB S E0 I hfp J1 L hfe hco (hbind _ _ _ _ _) tk hr' (fun C' e' E A outer s H hg' hr2 => hbody f c' C' e' E A outer s H (hg'.trans hgd) hr2) rfl B.sv0) fa_nil))))
      · have rw_ : L2H.RoomH kw (X.A.deeper (envOfC "_law_said" (defScope stS) s1.heap.objs.size g cdv)) := (L2H.roomH_of hr').mono hkw
        cases hret with
        | tup =>
          refine PSs.imp (pss_one (ps_ret (pe_tup (pa_cons (pe_word (Z := cxOf (L2.CX X.prog X.w) X.prog X.w X.K X.mg X.base ["_law_call", "_law_e"] "_law_said" (defScope stS) g cdv X.A X.stack s1 G1 fun _ _ _ => False) (i := 1) hz hfi B.word hgd rw_ B.bW B.gO B.mgW B.kpW rfl (.inl B.sl1) (by decide) (by decide) (by decide) rfl rfl) pa_nil)))) ?_
          rintro D τ G ⟨h1, tb, x, Dc, d, Bar, rfl, rfl, kx, em, hB, hq⟩
          refine ⟨h1, tb, x, Dc, d, Bar, rfl, rfl, kx, em, hB, fun v G' fk r => ⟨by show 1 ≤ sizeLine; decide, fun p0 hp0 => hq _ _ ⟨fun b o e n => ?_, ?_⟩ ?_⟩⟩
          · obtain ⟨o', e', kk⟩ := fk.1 b o e n
            exact ⟨o', by rw [upd_ne (ne_of_none e' hp0)]; exact e', kk⟩
          · exact (TabKp.new hp0).tabs fk.2
          · refine .tup (.inl ⟨.inl upd_same, fun z => ?_⟩) (.cons (Rp.stp ⟨keepE fun b o e _ => by rw [upd_ne (ne_of_none e hp0)]; exact e, fun _ z => .inl z⟩ r) .nil)
            obtain ⟨_, o, e⟩ := hB.1 p0 z
            obtain ⟨o', e', _⟩ := fk.1 p0 o e (fun z => nomatch z)
            rw [hp0] at e'
            cases e'
        | one =>
          refine PSs.imp (pss_one (ps_ret (pe_word (Z := cxOf (L2.CX X.prog X.w) X.prog X.w X.K X.mg X.base ["_law_call", "_law_e"] "_law_said" (defScope stS) g cdv X.A X.stack s1 G1 fun _ _ _ => False) (i := 1) hz hfi B.word hgd rw_ B.bW B.gO B.mgW B.kpW rfl (.inl B.sl1) (by decide) (by decide) (by decide) rfl rfl))) ?_
          rintro D τ G ⟨h1, tb, x, Dc, d, Bar, rfl, rfl, kx, em, hB, hq⟩
          exact ⟨h1, tb, x, Dc, d, Bar, rfl, rfl, kx, em, hB, hq⟩
    · refine ⟨ρ, [some (.exn exD), none], h, S2, ⟨rfl, fun i s' e => ?_⟩, ?_⟩
      · match i, e with
        | 0, e =>
          have e' : some (some (Sl.exn exD)) = some (some s') := e
          cases e'
          exact ⟨.ref f, rfl, f, rfl, rfl⟩
        | 1, e => cases (show some (none : Slot) = some (some s') from e)
        | i + 2, e => simp at e
      · have P1 : Po X.K X.mg C Wx σ ρ G1 (relE X.K C) (match fe env h with
          | .ok (.val d) h' => (.ok (.val (.tuple [.str "told", d])) h' : Rz Sl)
          | .err x h' => if R.contains x.cls && x.fs.isEmpty then (match mw x with
            | some d => .ok (.val (if tup then .tuple [d] else d)) h'
            | none => .bad) else .bad
          | _ => .bad) Q := P0
        have back : ∀ {ρ' : Fps} {h' : Hs} {H' : Hp}, SimH X.K ⟨G1, ρ, C.Bar, C.T, some (f, exD)⟩ ρ' h' H' → Ex C ρ G1 ρ' H' ∧ SimH X.K C ρ' h' H' := fun S' => ⟨S'.seen (C := C) rfl rfl rfl, S.backW (S'.cong rfl rfl rfl rfl)⟩
        cases q : fe env h with
        | bad => rw [q] at P1; exact P1.elim
        | ok s' h' =>
          rw [q] at P1
          cases s' with
          | loc n => exact P1.elim
          | inn n i => exact P1.elim
          | exn x => exact P1.elim
          | pr _ _ => exact P1.elim
          | val d =>
            have e1 : sRet (eTup (aCons (eK (.str "told")) (aCons (eAct fe env) aNil))) [some (.exn exD), none] h = .ret (.val (.tuple [.str "told", d])) h' := by
              simp [eAct, q, v_line]
            rw [e1]
            intro ρ' v H' st S' r
            exact P1 ρ' v H' (back S').1 (back S').2 r
        | err x h' =>
          rw [q] at P1
          dsimp only at P1
          split at P1
          · rename_i hc
            obtain ⟨c1, c2⟩ := Bool.and_eq_true_iff.mp hc
            have c3 : x.fs = [] := by simpa using c2
            cases em : mw x with
            | none => rw [em] at P1; exact P1.elim
            | some d =>
              rw [em] at P1
              have e1 : sRet (eTup (aCons (eK (.str "told")) (aCons (eAct fe env) aNil))) [some (.exn exD), none] h = .err x [some (.exn exD), none] h' := by
                simp [eAct, q]
              rw [e1]
              intro ρ' σ' H' cls dd st S' E' xn
              obtain ⟨Dc, kx, ex⟩ := hX x c1 c3
              have ecl : cls = .ref Dc := Option.some.inj (xn.1.symm.trans kx.g)
              subst ecl
              have edd : dd = none := by
                rcases xn.2 with z | z
                · exact z.2
                · exact absurd c3 z.1
              subst edd
              have hl : σ'.length = 2 := E'.len.symm
              refine ⟨true, ex, fun _ a ha => ⟨by rw [List.getElem?_set, if_pos rfl, if_pos (by omega)], S'.tab, x, Dc, d, Mo C ρ', rfl, rfl, kx, em, ⟨fun b z => ⟨by simp, (back S').2.trkM z⟩, fun b xs z w => (back S').2.freeX w z⟩, fun v G' fk r => ?_⟩, fun z => nomatch z⟩
              have kp : KeepA H' G' := fun b o e => fk.1 b o e (fun z => nomatch z)
              exact P1 ρ' v G' ((back S').1.trans kp.ex) (kp.sim (back S').2 fk.2) r
          · exact P1.elim
  refine ⟨J1.kIn, ?_⟩
  refine wpAny_call (codeAny_mono rc ?_)
  rintro (er | fl) s2 hq
  · obtain ⟨_, _, _, _, _, _, _, _, _, _, _, _, z⟩ := hq
    exact z.elim
  · cases fl with
    | ret u => exact J1.after hq
    | _ => exact False.elim hq
end
end FL
namespace FL
open PySem PySem.Spec PyProof.Rows L2
section
variable {X : Cx}
theorem pe_or {e : Expr} {t1 t2 : TE} (h1 : PE X e t1) (h2 : PE X e t2) : PE X e fun σ H Q => t1 σ H Q ∨ t2 σ H Q :=
  ⟨fun pins s σ H Q I h => h.elim (fun h => h1.run pins s σ H Q I h) fun h => h2.run pins s σ H Q I h⟩
/-- a comprehension as a value whose element is told the def's state at the block's start -/
theorem pe_lcI {elt tg iter : Expr} {ifs : List Expr} {scope : Scope} {own : List (Str × Nat)} {pos : Pos} {wi : TI} {g : TG} {tt : TT} {te : L2.St → TE} (hc : X.calm = true) (hN : X.N.Nodup) (hi : PI X tg iter wi) (ok : BlkOk X.N X.env.scope scope own)
    (hg : ∀ (s : Shared) (H : Hp) (C : Addr) (cl : List (Str × Addr)) (fp : List Addr), PG (X.blk s H scope (compEnvC scope cl C X.env) fp) tg g) (ht : ∀ (s : Shared) (H : Hp) (C : Addr) (cl : List (Str × Addr)) (fp : List Addr), PTs (X.blk s H scope (compEnvC scope cl C X.env) fp) ifs tt)
    (he : ∀ (pins : List (Addr × Obj)) (σ : L2.St) (s : Shared) (H : Hp) (C : Addr) (cl : List (Str × Addr)) (fp : List Addr), Inv X pins σ H s → (∀ y c, X.env.cells.lookup y = some c → c ∉ fp) → PE (X.blk s H scope (compEnvC scope cl C X.env) fp) elt (te σ))
    (hs : ∀ x, foldedSetIterable iter X.env x = pure x := by intro _; rfl) :
    PE X (.ListComp elt [⟨tg, iter, ifs, 0⟩] scope pos) fun σ H Q => tLc wi g tt (te σ) (own.map (·.2)) σ H Q := by
  refine ⟨fun pins s σ H Q I h => ?_⟩
  rw [eval_ListComp]
  refine lc_coreI hc hN I hi ok hg ht (fun s' H' C cl fp I' f => he pins σ s' H' C cl fp I' fun y c e z => (f c z).1.2.2.2.2.1 y c e rfl) hs h fun D C s' m H' I' q hn f => ⟨m, hn, fun h'' sb => ?_⟩
  obtain ⟨f0, f1, f2, f3, f4, f5⟩ := f
  exact ⟨.ref D, H', I'.turned (t' := s'.toks) (fun b o hb e => (sb.2 b hb).trans e) f0 f1 f3 f4 f5, rfl, q⟩
end
end FL
namespace FL
open PySem PySem.Spec PyProof.Rows L2
/-- a lambda of the suite: its text, its mirror -/
structure LamD where
  params : Arguments
  body : Expr
  scope : Scope
  fe : Ev
theorem Made.keepA {H H1 : Hp} {P c' : Addr} {q : Str} (m : Made H P c' q H1) : KeepA H H1 := fun _ _ e => m.keep e
theorem KeepA.rfl (H : Hp) : KeepA H H := fun _ o e => ⟨o, e, .inl (Eq.refl _)⟩
theorem KeepA.trans {H H1 H2 : Hp} (a : KeepA H H1) (b : KeepA H1 H2) : KeepA H H2 := fun c o e => by
  obtain ⟨o1, e1, k1⟩ := a c o e
  obtain ⟨o2, e2, k2⟩ := b c o1 e1
  exact ⟨o2, e2, k1.trans k2⟩
theorem KeepA.non {H H1 : Hp} (a : KeepA H H1) {b : Addr} (e : H1 b = none) : H b = none := by
  cases q : H b with
  | none => rfl
  | some o =>
    obtain ⟨o', e', _⟩ := a b o q
    rw [e] at e'; cases e'
theorem KeepA.same {H H1 : Hp} (a : KeepA H H1) {b : Addr} {o : HO} (e : H b = some o) (n : NT o) : H1 b = some o := by
  obtain ⟨o', e', k⟩ := a b o e
  rw [e', k.nt n]
theorem KeepA.poke {H0 H : Hp} (a : KeepA H0 H) {p : Addr} {o : HO} (n : H0 p = none) : KeepA H0 (upd H p o) := fun b u e => by
  obtain ⟨o', e', k⟩ := a b u e
  exact ⟨o', by rw [upd_ne (ne_of_none e n)]; exact e', k⟩
theorem KeepA.laid {H : Hp} {p : Addr} {o : HO} (n : H p = none) : KeepA H (upd H p o) := (KeepA.rfl H).poke n
section
variable {X : Cx} {C : Fc} {Wx : WX}
/-- its closure -/
def CloAt (X : Cx) (H : Hp) (M : Ms) (v : V) (l : LamD) : Prop := ∃ (f c' : Addr) (pm ctv : Value), v = .ref f ∧ (H f = some (CloO f (cloX X l.params l.body l.scope pm c' ctv)) ∧ ¬ M f) ∧ (H c' = some (LamX.CodeO c' (X.env.qual ++ "<lambda>")) ∧ ¬ M c')
theorem CloAt.stp {H H' : Hp} {M M' : Ms} {v : V} {l : LamD} (s : Stp M H M' H') (h : CloAt X H M v l) : CloAt X H' M' v l := by
  obtain ⟨f, c', pm, ctv, e, h1, h2⟩ := h
  exact ⟨f, c', pm, ctv, e, s.held (fun _ z => nomatch z) h1, s.held (fun _ z => nomatch z) h2⟩
theorem CloAt.keep {H H' : Hp} {M : Ms} {v : V} {l : LamD} (k : ∀ b f, H b = some (.ext f) → H' b = some (.ext f)) (h : CloAt X H M v l) : CloAt X H' M v l := by
  obtain ⟨f, c', pm, ctv, e, h1, h2⟩ := h
  exact ⟨f, c', pm, ctv, e, ⟨k _ _ h1.1, h1.2⟩, ⟨k _ _ h2.1, h2.2⟩⟩
/-- the suite so far: the list of closures -/
structure LamsAt (X : Cx) (C : Fc) (iL : Nat) (ls : List LamD) (ρ : Fps) (env : En) (h : Hs) (H0 : Hp) (σ : L2.St) (H : Hp) : Prop where
  S : SimH X.K C ρ h H0
  E : EnvOk X.K C ρ H0 env σ
  kp : KeepA H0 H
  tab : LamX.Tabs C.T H
  L : ∃ (L : Addr) (vs : List V), H0 L = none ∧ H L = some (.lst vs) ∧ σ[iL]? = some (some (.ref L)) ∧ Paired (CloAt X H (Mo C ρ)) vs ls
theorem EnvOk.over {K : PySem.W.Frag} {ρ : Fps} {H : Hp} {env : En} {σ : L2.St} {i : Nat} {v : V} (E : EnvOk K C ρ H env σ) (e : env[i]? = some none) : EnvOk K C ρ H env (σ.set i (some v)) := by
  refine ⟨by rw [List.length_set]; exact E.len, fun j s q => ?_⟩
  obtain ⟨u, a, b⟩ := E.at_ j s q
  have hj : i ≠ j := fun z => by
    subst z
    rw [e] at q; cases q
  exact ⟨u, by rw [List.getElem?_set_ne hj]; exact a, b⟩
theorem clo_made {ρ : Fps} {h : Hs} {H1 : Hp} {f c' : Addr} {pm ctv : Value} {l : LamD} (S : SimH X.K C ρ h H1) (hfn : H1 f = none) (hco : H1 c' = some (LamX.CodeO c' (X.env.qual ++ "<lambda>"))) :
    CloAt X (upd H1 f (CloO f (cloX X l.params l.body l.scope pm c' ctv))) (Mo C ρ) (.ref f) l := by
  have nf : f ≠ c' := fun z => by rw [z, hco] at hfn; cases hfn
  refine ⟨f, c', pm, ctv, rfl, ⟨upd_same, S.fresh hfn⟩, ?_, S.freeX (xs := ⟨LamX.CodeO c' (X.env.qual ++ "<lambda>"), trivial⟩) hco⟩
  rw [upd_ne (Ne.symm nf)]
  exact hco
variable {T : List (Addr × Str)} {c P : Addr} {l : LamD} {iL : Nat} {xL : Str} {p1 p2 q1 q2 q3 : Pos}
theorem ps_lam1 (hT : C.T = T) (TB : LamX.TabB X.base X.mg c P) (hcode : X.env.code = .ref c) (hm : (P, X.env.qual ++ "<lambda>") ∈ T) (hu : ∀ p ∈ T, p.1 = P → p.2 = X.env.qual ++ "<lambda>") (hdef : defaultsOf l.params X.env = ([], [])) (L : LamX.LamS X.env.scope l.scope)
    (hN : X.N.Nodup) (hi : X.N[iL]? = some xL) (hx : Loc X.env.scope xL) (hf : X.fn xL = true ∨ X.env.scope.names.lookup xL = some .local) :
    PS X (.Assign [.Name xL p1] (.List [.Lambda l.params l.body l.scope q1] q2) p2) fun D σ H => ∃ ρ env h, SimH X.K C ρ h H ∧ EnvOk X.K C ρ H env σ ∧ env[iL]? = some none ∧ ∀ σ' H', LamsAt X C iL [l] ρ env h H σ' H' → D.nx σ' H' := by
  subst hT
  refine PS.imp (ps_set hN hi hx (pe_lst (pa_cons (pe_clo TB hcode hm hu hdef L) pa_nil)) (by rfl) hf) ?_
  rintro D σ H ⟨ρ, env, h, S, E, e0, k⟩
  refine ⟨S.tab, fun f c' pm ctv H1 md T1 hfn hfr hco => ⟨by show 1 ≤ sizeLine; decide, fun p hp => k _ _ ?_⟩⟩
  have S1 := Made.sim md S T1
  have hp1 : H1 p = none := (KeepA.laid hfn).non hp
  refine ⟨S, E.over e0, (md.keepA.trans (KeepA.laid hfn)).trans (KeepA.laid hp), (TabKp.new hp).tabs ((TabKp.new hfn).tabs T1), p, [.ref f], md.keepA.non hp1, upd_same, ?_, .cons ((clo_made S1 hfn hco).keep (TabKp.new hp).2) .nil⟩
  have hl : iL < σ.length := by
    rw [← E.len]
    exact (List.getElem?_eq_some_iff.mp e0).1
  exact List.getElem?_set_self hl
theorem ps_lamA (hT : C.T = T) (TB : LamX.TabB X.base X.mg c P) (hcode : X.env.code = .ref c) (hm : (P, X.env.qual ++ "<lambda>") ∈ T) (hu : ∀ p ∈ T, p.1 = P → p.2 = X.env.qual ++ "<lambda>") (hdef : defaultsOf l.params X.env = ([], [])) (L : LamX.LamS X.env.scope l.scope)
    (hi : X.N[iL]? = some xL) (hv : Vis X.env.scope xL) (hd : (xL == ("__debug__" : Str)) = false) (hcd : (xL == ("__classdict__" : Str)) = false) (hline : (p2.endLine == q2.line) = true) :
    PS X (.Expr (.Call (.Attribute (.Name xL p1) "append" p2) [.Lambda l.params l.body l.scope q1] [] q2) q3) fun D σ H => ∃ ls ρ env h H0, LamsAt X C iL ls ρ env h H0 σ H ∧ ls.length < 16777216 ∧ ∀ H', LamsAt X C iL (ls ++ [l]) ρ env h H0 σ H' → D.nx σ H' := by
  subst hT
  refine PS.imp (ps_expr (pe_bm PySem.F.plainAttrs_list PySem.F.slot_list_append rfl mt_append (pe_var hi hv hd hcd) (pa_cons (pe_clo TB hcode hm hu hdef L) pa_nil) (hline := hline)) (by rfl)) ?_
  rintro D σ H ⟨ls, ρ, env, h, H0, M, hl, k⟩
  obtain ⟨S, E, kp, tb, a, vs, n0, ha, hs, pr⟩ := M
  refine ⟨_, hs, .inl ⟨rfl, vs, .inl (.inl ha)⟩, tb, fun f c' pm ctv H1 md T1 hfn hfr hco => ?_⟩
  have S1 : SimH X.K C ρ h H1 := KeepA.sim (kp.trans md.keepA) S T1
  have k2 : KeepA H (upd H1 f (CloO f (cloX X l.params l.body l.scope pm c' ctv))) := md.keepA.trans (KeepA.laid hfn)
  have ha2 := k2.same ha nt_lst
  refine ⟨a, vs, .ref f, rfl, rfl, ha2, by rw [pr.length, sizeLine_eq]; exact hl, k _ ⟨S, E, (kp.trans k2).poke n0, (TabKp.put ha2 nte_lst).tabs ((TabKp.new hfn).tabs T1), a, vs ++ [.ref f], n0, upd_same, hs, ?_⟩⟩
  refine Paired.snoc (L2.Paired.mapP pr fun v l r => CloAt.keep (TabKp.put ha2 nte_lst).2 (CloAt.keep (fun b g e => k2.same e fun _ z => nomatch z) r)) ((clo_made S1 hfn hco).keep (TabKp.put ha2 nte_lst).2)
end
end FL
namespace FL
open PySem PySem.Spec PyProof.Rows L2
/-- the answers of the suite -/
def saidsL (tup : Bool) (R : List Str) (mw : Exn → Option PyData) : List Ev → List PyData → En → Hs → Rz (List PyData)
  | [], acc, _, h => .ok acc h
  | f :: fs, acc, env, h => match eSaid tup R mw f env h with
    | .ok (.val d) h => if acc.length < 16777216 then saidsL tup R mw fs (acc ++ [d]) env h else .bad
    | _ => .bad
def eSaids (tup : Bool) (R : List Str) (mw : Exn → Option PyData) (fs : List Ev) : Ev := fun env h => (saidsL tup R mw fs [] env h).bind fun out h => .ok (.val (.list out)) h
section
variable {X : Cx} {C : Fc} {Wx : WX} {T : List (Addr × Str)}
/-- what a suite's lambda wants -/
structure LamG (X : Cx) (T : List (Addr × Str)) (k : Nat) (l : LamD) : Prop where
  L : LamX.LamS X.env.scope l.scope
  hdef : defaultsOf l.params X.env = ([], [])
  hbind : ∀ (q : Str) (cl : List (Str × Addr)) (pm cv ctv : Value), bindArgs (PySem.W.kla_fn "<lambda>" q l.params l.body l.scope cl pm cv ctv) ⟨[], []⟩ = pure []
  hbody : ∀ (f c' : Addr) (C' : Fc) (_ : C'.T = T) (E : XK) (A : Around) (outer : List Env) (s : Shared) (H : Hp), A.guards = some [] → Room k (A.deeper (LamX.lamEnv X l.scope s.heap.objs.size f c')) → FE (LamX.lamCx X A outer s H E l.scope f c') C' (Wq E) l.body l.fe
/-- the element of the comprehension: one of the closures is asked -/
def teS (X : Cx) (T : List (Addr × Str)) (ix : Nat) (tup : Bool) (R : List Str) (mw : Exn → Option PyData) (ls : List LamD) (σ : L2.St) : TE := fun σB HB Q => ∃ l ∈ ls, ∃ C' : Fc, C'.T = T ∧ ∃ (f c' : Addr) (pm ctv : Value) (ρ : Fps) (env : En) (h : Hs), σB[ix]? = some (some (.ref f)) ∧ HB f = some (CloO f (cloX X l.params l.body l.scope pm c' ctv)) ∧ HB c' = some (LamX.CodeO c' (X.env.qual ++ "<lambda>")) ∧ SimH X.K C' ρ h HB ∧ EnvOk X.K C' ρ HB env σ ∧ Po X.K X.mg C' W0 σ ρ HB (relE X.K C') (eSaid tup R mw l.fe env h) Q
theorem pe_teS {s : Shared} {H : Hp} {scC : Scope} {ce : Env} {fp : List Addr} {pins : List (Addr × Obj)} {σ : L2.St} {x : Str} {ix : Nat} {g fw : Addr} {stS : Stmt} {fdS fdw : FuncData} {k kw : Nat} {pw : Str} {ys R : List Str} {mw : Exn → Option PyData} {tup : Bool} {ls : List LamD} {p q pos : Pos}
    (B : SaidOk X T kw g fw stS fdS fdw pw ys R mw tup) (hgd : X.A.guards = some []) (hr : Room (k + 2) X.A) (hkw : kw ≤ k + 1) (I : Inv X pins σ H s) (hfp : ∀ y c, X.env.cells.lookup y = some c → c ∉ fp)
    (hN : X.N[ix]? = some x) (hvB : Vis ce.scope x) (hgB : Gl (X.blk s H scC ce fp) "_law_said") (hxd : (x == ("__debug__" : Str)) = false) (hxc : (x == ("__classdict__" : Str)) = false) (hl : ∀ l ∈ ls, LamG X T k l) :
    PE (X.blk s H scC ce fp) (.Call (.Name "_law_said" p) [.Name x q] [] pos) (teS X T ix tup R mw ls σ) := by
  constructor
  rintro pinsB sB σB HB Q JB ⟨l, hm, C', hT, w⟩
  exact (pe_saidB (C := C') (Wx := W0) B hT hgd hr hkw I hfp (hl l hm).L hN hvB hgB hxd hxc (hl l hm).hbind (hl l hm).hbody).run pinsB sB σB HB Q JB w
theorem saids_cons {tup : Bool} {R : List Str} {mw : Exn → Option PyData} {f : Ev} {fs : List Ev} {acc : List PyData} {env : En} {h : Hs} : saidsL tup R mw (f :: fs) acc env h = match eSaid tup R mw f env h with
    | .ok (.val d) h => if acc.length < 16777216 then saidsL tup R mw fs (acc ++ [d]) env h else .bad
    | _ => .bad := rfl
theorem paired_get {α β : Type} {F : α → β → Prop} : ∀ {vs : List α} {ls : List β}, Paired F vs ls → ∀ {i : Nat} {l : β}, ls[i]? = some l → ∃ v, vs[i]? = some v ∧ F v l
  | _, _, .nil, i, l, e => by simp at e
  | _, _, .cons r t, 0, l, e => by
    have e' : some _ = some l := e
    cases e'
    exact ⟨_, rfl, r⟩
  | _, _, .cons r t, i + 1, l, e => by
    obtain ⟨v, a, b⟩ := paired_get t (i := i) (l := l) (by simpa using e)
    exact ⟨v, by simpa using a, b⟩
theorem lams_read {iL ix : Nat} {ls : List LamD} {ρ : Fps} {env : En} {h : Hs} {H0 H : Hp} {σ : L2.St} {tup : Bool} {R : List Str} {mw : Exn → Option PyData} {Q : VK} (hT : C.T = T) (M : LamsAt X C iL ls ρ env h H0 σ H) (hx : ix < σ.length)
    (P : Po X.K X.mg C Wx σ ρ H (relE X.K C) (eSaids tup R mw (ls.map (·.fe)) env h) Q) : tLc (iList X.K (tVar iL)) (gName ix) tYes (teS X T ix tup R mw ls σ) [ix] σ H Q := by
  obtain ⟨S0, E0, kp, tb, a, vs, n0, ha, hs, pr⟩ := M
  have S1 : SimH X.K C ρ h H := KeepA.sim kp S0 tb
  have E1 : EnvOk X.K C ρ H env σ := E0.ex kp.ex
  have na : ¬ Mo C ρ a := S0.fresh n0
  refine ⟨_, hs, a, rfl, ⟨vs, .inl (.inl ha)⟩, fun D hD => ?_⟩
  have M0 : Mid X.K C D ρ H env σ [] ρ h (upd H D (.lst [])) [] := by
    refine ⟨S1.plus hD, ⟨E1.len, fun i s e => ?_⟩, Stp.plus hD, fun n fp e => ⟨fp, e, pfx_rfl⟩, upd_same, .nil⟩
    obtain ⟨v, e1, r⟩ := E1.at_ i s e
    refine ⟨v, e1, ?_⟩
    cases s with
    | val d => exact Rp.stp (Stp.plus hD) r
    | loc n => exact r
    | inn n i => exact r
    | exn x => exact r
    | pr _ _ => exact SlV.prs (Stp.plus hD) r
  refine ⟨fun i m H2 => m = ls.length - i ∧ ∃ ρ2 h2 acc av, Mid X.K C D ρ H env σ acc ρ2 h2 H2 av ∧ Po X.K X.mg C Wx σ ρ H (relE X.K C) ((saidsL tup R mw ((ls.map (·.fe)).drop i) acc env h2).bind fun out h => .ok (.val (.list out)) h) Q,
    ⟨ls.length - 0, rfl, ρ, h, [], [], M0, P⟩, fun i m H2 hW => ?_⟩
  obtain ⟨hm, ρ2, h2, acc, av, M, P2⟩ := hW
  have ha2 : H2 a = some (.lst vs) := M.st.keep ha na nt_lst
  by_cases hi : i < ls.length
  · have hi' : i < (ls.map (·.fe)).length := by rw [List.length_map]; exact hi
    have ed : (ls.map (·.fe)).drop i = ls[i].fe :: (ls.map (·.fe)).drop (i + 1) := by
      rw [List.drop_eq_getElem_cons hi']
      simp
    obtain ⟨v, ev, cl⟩ := paired_get pr (List.getElem?_eq_getElem hi)
    obtain ⟨f, c', pm, ctv, rfl, g1, g2⟩ := cl.stp M.st
    rw [ed, saids_cons] at P2
    refine .inr ⟨⟨vs, _, .inl (.inl ha2), ev⟩, fun H' => ∃ ρ3 h3 acc av, Mid X.K C D ρ H env σ acc ρ3 h3 H' av ∧ Po X.K X.mg C Wx σ ρ H (relE X.K C) ((saidsL tup R mw ((ls.map (·.fe)).drop (i + 1)) acc env h3).bind fun out h => .ok (.val (.list out)) h) Q, fun H' hN => ⟨ls.length - (i + 1), by omega, rfl, hN⟩, fun x H' y => ?_⟩
    obtain ⟨rfl, hy⟩ := y
    have ex := hy vs (.inl (.inl ha2))
    rw [ev] at ex
    cases ex
    refine ⟨by rw [wipe_set (by simp), wipe_wipe], ?_⟩
    unfold tYes
    dsimp only
    rw [if_pos rfl]
    refine ⟨ls[i], List.getElem_mem hi, (C.plus D).sub ρ2 H', hT, f, c', pm, ctv, ρ2, env, h2, List.getElem?_set_self (by rw [wipe_length]; exact hx), g1.1, g2.1, M.S.sub, EnvOk.cong (C := C.plus D) (C' := (C.plus D).sub ρ2 H') rfl rfl M.E, ?_⟩
    cases w : eSaid tup R mw ls[i].fe env h2 with
    | bad => rw [w] at P2; exact P2.elim
    | err _ _ => rw [w] at P2; exact P2.elim
    | ok s5 h5 =>
      rw [w] at P2
      cases s5 with
      | loc n => exact P2.elim
      | inn n i => exact P2.elim
      | exn x => exact P2.elim
      | pr _ _ => exact P2.elim
      | val x5 =>
        intro ρ5 y5 H5 x5' S5 r5
        have M5 := M.step S5 x5'
        have P4 : Po X.K X.mg C Wx σ ρ H (relE X.K C) ((if acc.length < 16777216 then saidsL tup R mw ((ls.map (·.fe)).drop (i + 1)) (acc ++ [x5]) env h5 else .bad : Rz (List PyData)).bind fun out h => .ok (.val (.list out)) h) Q := P2
        split at P4
        · rename_i hl
          have bD : (C.plus D).Bar D := .inr rfl
          have nD : (C.plus D).H0 D = none := by
            cases q0 : C.H0 D with
            | none => exact q0
            | some o =>
              by_cases hw : D ∈ C.W.flatten
              · obtain ⟨o', e'⟩ := S1.wtr D hw
                rw [hD] at e'; cases e'
              · obtain ⟨o', e', _⟩ := S1.frK D o q0 hw
                rw [hD] at e'; cases e'
          have r5' : Rp X.K H5 (Mo (C.plus D) ρ5) y5 x5 := r5
          have sp := Stp.poke (C := C.plus D) (ρ := ρ5) (H := H5) (o := .lst (av ++ [y5])) bD
          refine ⟨av, M5.at_, by rw [M5.all.length, sizeLine_eq]; exact hl, ρ5, h5, acc ++ [x5], av ++ [y5], ⟨M5.S.poke bD nD M5.at_ nte_lst, ?_, M5.st.trans sp, M5.root, upd_same, (M5.all.stp sp).append (.cons (Rp.stp sp r5') .nil)⟩, P4⟩
          exact M5.E.ex ⟨sp, fun n fp e => ⟨fp, e, pfx_rfl⟩⟩
        · exact P4.elim
  · have ed : (ls.map (·.fe)).drop i = [] := List.drop_eq_nil_of_le (by rw [List.length_map]; omega)
    rw [ed] at P2
    exact .inl ⟨⟨vs, .inl (.inl ha2), by rw [pr.length]; omega⟩, lc_val D ρ ρ2 H H2 _ acc h2 av σ h S1 hD M P2⟩
end
end FL
namespace FL
open PySem PySem.Spec PyProof.Rows L2
/-- calls = [lambda: ..]; calls.append(lambda: ..) three times; return [said(c) for c in calls] == .. -/
def sLams (iL ix : Nat) (tup : Bool) (R : List Str) (mw : Exn → Option PyData) (fs : List Ev) (fb : Ev) : Sv := fun env h => match env[iL]?, env[ix]? with
  | some none, some _ => sRet (cBin gEq (eSaids tup R mw fs) fb) env h
  | _, _ => .bad
section
variable {X : Cx} {C : Fc} {Wx : WX} {T : List (Addr × Str)}
theorem lams_ret {iL ix : Nat} {ls : List LamD} {ρ : Fps} {env : En} {h : Hs} {H0 H : Hp} {σ : L2.St} {tup : Bool} {R : List Str} {mw : Exn → Option PyData} {D : Ends} {fb : Ev} (hT : C.T = T) (M : LamsAt X C iL ls ρ env h H0 σ H) (hx : ix < σ.length)
    (P0 : PoS X.K X.mg C Wx D ρ H0 (sRet (cBin gEq (eSaids tup R mw (ls.map (·.fe))) fb) env h)) : tRet (tOp (rd2 X.K C gEq) (fun σ H Q => tLc (iList X.K (tVar iL)) (gName ix) tYes (teS X T ix tup R mw ls σ) [ix] σ H Q) (rd X.K X.mg C Wx (relE X.K C) fb)) D σ H := by
  have P := PoS.stp (r := sRet (cBin gEq (eSaids tup R mw (ls.map (·.fe))) fb) env h) (M.kp.ex (C := C) (ρ := ρ)).stp P0
  have E1 := M.E.ex (M.kp.ex (C := C) (ρ := ρ))
  show tLc (iList X.K (tVar iL)) (gName ix) tYes (teS X T ix tup R mw ls σ) [ix] σ H fun x H1 => rd X.K X.mg C Wx (relE X.K C) fb σ H1 fun y H2 => rd2 X.K C gEq x y H2 D.rt
  refine lams_read (Wx := Wx) hT M hx ?_
  have e : sRet (cBin gEq (eSaids tup R mw (ls.map (·.fe))) fb) env h = ((eSaids tup R mw (ls.map (·.fe)) env h).bind fun s h => (fb env h).bind fun t h => .give (gEq s t h) h).fl env fun s h => .ret s h := rfl
  rw [e] at P
  cases q : eSaids tup R mw (ls.map (·.fe)) env h with
  | bad => rw [q] at P; exact P.elim
  | err x h1 =>
    rw [q] at P
    exact fun ρ1 H1 cls d x1 S1 xn => P ρ1 σ H1 cls d x1.stp S1 (E1.ex x1) xn
  | ok s h1 =>
    rw [q] at P
    intro ρ1 x H1 x1 S1 r1
    refine ⟨ρ1, env, h1, S1, E1.ex x1, ?_⟩
    have P1 : PoS X.K X.mg C Wx D ρ H (((fb env h1).bind fun t h => .give (gEq s t h) h).fl env fun s h => .ret s h) := P
    cases q2 : fb env h1 with
    | bad => rw [q2] at P1; exact P1.elim
    | err y h2 =>
      rw [q2] at P1
      exact fun ρ2 H2 cls d x2 S2 xn => P1 ρ2 σ H2 cls d (x1.trans x2).stp S2 ((E1.ex x1).ex x2) xn
    | ok t h2 =>
      rw [q2] at P1
      intro ρ2 y H2 x2 S2 r2
      have P2 : PoS X.K X.mg C Wx D ρ H ((Rz.give (gEq s t h2) h2).fl env fun s h => .ret s h) := P1
      cases q3 : gEq s t h2 with
      | none => rw [q3] at P2; exact P2.elim
      | some d =>
        rw [q3] at P2
        exact ⟨ρ2, h2, s, t, d, S2, SlV.ex x2 r1, r2, q3, fun v H3 x3 S3 r3 => P2 ρ2 v H3 ((x1.trans x2).trans x3).stp S3 r3⟩
theorem fss_lams {stS : Stmt} {fd : FuncData} {k kw : Nat} {ys R : List Str} {mw : Exn → Option PyData} {tup : Bool} {iL ix : Nat} {xL x : Str} {pr1 pr2 pr3 pr4 : Arguments} {bd1 bd2 bd3 bd4 : Expr} {sc1 sc2 sc3 sc4 : Scope} {fe1 fe2 fe3 fe4 fb : Ev} {rhs : Expr} {scope : Scope}
    {a1 a2 a3 a4 b1 b2 b3 b4 b5 c1 c2 c3 c4 c5 d1 d2 d3 d4 d5 e1 e2 e3 e4 e5 e6 e7 e8 : Pos}
    (A : SaidAll X.prog X.w X.K X.mg X.base T kw stS ys R mw tup) (Lm : LamOk X.base X.mg T fd (X.env.qual ++ "<lambda>")) (hcode : X.env.code = fd.code) (hT : C.T = T) (hgd : X.A.guards = some []) (hr : Room (k + 2) X.A) (hkw : kw ≤ k + 1)
    (hc : X.calm = true) (hN : X.N.Nodup) (hiL : X.N[iL]? = some xL) (hix : X.N[ix]? = some x) (hx : Loc X.env.scope xL) (hf : X.fn xL = true ∨ X.env.scope.names.lookup xL = some .local) (hv : Vis X.env.scope xL)
    (ok : BlkOk X.N X.env.scope scope [(x, ix)]) (hgt : ∀ (s : Shared) (H : Hp) (Cc : Addr) (cl : List (Str × Addr)) (fp : List Addr), PG (X.blk s H scope (compEnvC scope cl Cc X.env) fp) (.Name x e4) (gName ix))
    (hvB : ∀ (Cc : Addr) (cl : List (Str × Addr)), Vis (compEnvC scope cl Cc X.env).scope x) (hgB : ∀ (s : Shared) (H : Hp) (Cc : Addr) (cl : List (Str × Addr)) (fp : List Addr), Gl (X.blk s H scope (compEnvC scope cl Cc X.env) fp) "_law_said")
    (hu : X.A.units + 64 < cLine) (g1 : LamG X T k ⟨pr1, bd1, sc1, fe1⟩) (g2 : LamG X T k ⟨pr2, bd2, sc2, fe2⟩) (g3 : LamG X T k ⟨pr3, bd3, sc3, fe3⟩) (g4 : LamG X T k ⟨pr4, bd4, sc4, fe4⟩) (hb : FE X C Wx rhs fb)
    (hd : (xL == ("__debug__" : Str)) = false := by decide) (hcd : (xL == ("__classdict__" : Str)) = false := by decide) (hd2 : (x == ("__debug__" : Str)) = false := by decide) (hcd2 : (x == ("__classdict__" : Str)) = false := by decide)
    (l2 : (b2.endLine == b4.line) = true := by rfl) (l3 : (c2.endLine == c4.line) = true := by rfl) (l4 : (d2.endLine == d4.line) = true := by rfl) :
    FSs X C Wx [.Assign [.Name xL a1] (.List [.Lambda pr1 bd1 sc1 a2] a3) a4,
      .Expr (.Call (.Attribute (.Name xL b1) "append" b2) [.Lambda pr2 bd2 sc2 b3] [] b4) b5,
      .Expr (.Call (.Attribute (.Name xL c1) "append" c2) [.Lambda pr3 bd3 sc3 c3] [] c4) c5,
      .Expr (.Call (.Attribute (.Name xL d1) "append" d2) [.Lambda pr4 bd4 sc4 d3] [] d4) d5,
      .Return (some (.Compare (.ListComp (.Call (.Name "_law_said" e1) [.Name x e2] [] e3) [⟨.Name x e4, .Name xL e5, [], 0⟩] scope e6) [.Eq] [rhs] e7)) e8] (sLams iL ix tup R mw [fe1, fe2, fe3, fe4] fb) := by
  obtain ⟨c, P, ec, TB, m1, m2⟩ := Lm.ex
  obtain ⟨g, fw, fdS, fdw, pw, hB⟩ := A.ex
  have B := hB X rfl rfl rfl rfl rfl
  have hall : ∀ l ∈ ([⟨pr1, bd1, sc1, fe1⟩, ⟨pr2, bd2, sc2, fe2⟩, ⟨pr3, bd3, sc3, fe3⟩, ⟨pr4, bd4, sc4, fe4⟩] : List LamD), LamG X T k l := fun l hl => by
    simp only [List.mem_cons, List.not_mem_nil, or_false] at hl
    rcases hl with rfl | rfl | rfl | rfl
    · exact g1
    · exact g2
    · exact g3
    · exact g4
  have hcd' := hcode.trans ec
  refine PSs.imp (pss_cons (ps_lam1 (l := ⟨pr1, bd1, sc1, fe1⟩) hT TB hcd' m1 m2 g1.hdef g1.L hN hiL hx hf)
    (pss_cons (ps_lamA (l := ⟨pr2, bd2, sc2, fe2⟩) hT TB hcd' m1 m2 g2.hdef g2.L hiL hv hd hcd l2)
    (pss_cons (ps_lamA (l := ⟨pr3, bd3, sc3, fe3⟩) hT TB hcd' m1 m2 g3.hdef g3.L hiL hv hd hcd l3)
    (pss_cons (ps_lamA (l := ⟨pr4, bd4, sc4, fe4⟩) hT TB hcd' m1 m2 g4.hdef g4.L hiL hv hd hcd l4)
    (pss_one (ps_ret (pe_cmpR (o_eq (C := C) hu) (pe_lcI (wi := iList X.K (tVar iL)) (g := gName ix) (tt := tYes) (te := teS X T ix tup R mw [⟨pr1, bd1, sc1, fe1⟩, ⟨pr2, bd2, sc2, fe2⟩, ⟨pr3, bd3, sc3, fe3⟩, ⟨pr4, bd4, sc4, fe4⟩]) hc hN (pi_list (pe_var hiL hv hd hcd)) ok hgt (fun _ _ _ _ _ => pts_nil)
      (fun pins σ s H Cc cl fp I hfp => pe_teS B hgd hr hkw I hfp hix (hvB Cc cl) (hgB s H Cc cl fp) hd2 hcd2 hall)) hb (nomark _)))))))) ?_
  rintro D σ H ⟨ρ, env, h, S, E, P0⟩
  have P1 : PoS X.K X.mg C Wx D ρ H (match env[iL]?, env[ix]? with
    | some none, some _ => sRet (cBin gEq (eSaids tup R mw [fe1, fe2, fe3, fe4]) fb) env h
    | _, _ => .bad) := P0
  split at P1
  · rename_i y ey ez
    have hl : ∀ {σ' H'} {ls : List LamD} {H0 : Hp}, LamsAt X C iL ls ρ env h H0 σ' H' → ix < σ'.length := fun M => by
      rw [← M.E.len]
      exact (List.getElem?_eq_some_iff.mp ez).1
    exact ⟨ρ, env, h, S, E, ey, fun σ1 H1 M1 => ⟨_, ρ, env, h, H, M1, by simp, fun H2 M2 => ⟨_, ρ, env, h, H, M2, by simp, fun H3 M3 => ⟨_, ρ, env, h, H, M3, by simp, fun H4 M4 => lams_ret hT M4 (hl M4) P1⟩⟩⟩⟩
  · exact P1.elim
end
end FL
namespace FL
open PySem PySem.Spec PyProof.Rows L2
def R_ : List Str := ["NoNet", "NoPlace", "NoShut"]
def b_is_among : Sv := (sRet (eAnd (cUn (gIsa "int") (eVar 0)) (eAnd (eNot (cUn (gIsa "bool") (eVar 0))) (eChain (gI fLe) (gI fLe) (eVar 1) (eVar 0) (eVar 2)))))
def m_is_among : Fm := runFn false [false, false, false] 0 b_is_among
def b_is_whole : Sv := (sRet (eAnd (cUn (gIsa "int") (eVar 0)) (eNot (cUn (gIsa "bool") (eVar 0)))))
def m_is_whole : Fm := runFn false [false] 0 b_is_whole
def b_are_rising : Sv := (sRet (cCB gAll (aCons (eComp (srcZip (aCons (eVar 0) (aCons (eSl (eVar 0) (oSome (eK (.int 1))) oNone) aNil))) (.tp [(.nm 1), (.nm 2)]) [1, 2] tTrue (cBin (gI fLt) (eVar 1) (eVar 2))) aNil)))
def m_are_rising : Fm := runFn false [false] 2 b_are_rising
def b_are_unlike : Sv := (sRet (cBin gEq (cUn gLenSet (eVar 0)) (cCB gLen (aCons (eVar 0) aNil))))
def m_are_unlike : Fm := runFn false [false] 0 b_are_unlike
def b_is_road : Sv := (sSeq (sIf (tOr_ (tNo (tV (cUn (gIsa "tuple") (eVar 0)))) (tOr_ (tV (cBin gNe (cCB gLen (aCons (eVar 0) aNil)) (eK (.int 4)))) (tNo (tV (cCB gAll (aCons (eComp (srcSeq (eSl (eVar 0) oNone (oSome (eK (.int 2))))) (.nm 6) [6] tTrue (eCall m_is_among [false, false, false] false (aCons (eVar 6) (aCons (eK (.int 0)) (aCons (cBin (gI fSub) (eVar 1) (eK (.int 1))) aNil))))) aNil)))))) (sRet (eK (.bool false))) sNil)
    (sSeq (sAsg (eVar 0) (.tp [(.nm 2), (.nm 3), (.nm 4), (.nm 5)]))
    (sRet (eAnd (cBin gNe (eVar 2) (eVar 3)) (eAnd (eCall m_is_among [false, false, false] false (aCons (eVar 4) (aCons (eK (.int 1)) (aCons (eK (.int 99)) aNil)))) (eCall m_is_among [false, false, false] false (aCons (eVar 5) (aCons (eK (.int 0)) (aCons (eK (.int 99)) aNil)))))))))
def m_is_road : Fm := runFn false [false, false] 5 b_is_road
def b_is_net : Sv := (sSeq (sIf (tOr_ (tNo (tV (cUn (gIsa "tuple") (eVar 0)))) (tOr_ (tV (cBin gNe (cCB gLen (aCons (eVar 0) aNil)) (eK (.int 2)))) (tNo (tV (eCall m_is_among [false, false, false] false (aCons (cBin gIx (eVar 0) (eK (.int 0))) (aCons (eK (.int 1)) (aCons (eK (.int 10)) aNil)))))))) (sRet (eK (.bool false))) sNil)
    (sSeq (sAsg (eVar 0) (.tp [(.nm 1), (.nm 2)]))
    (sRet (eAnd (cUn (gIsa "tuple") (eVar 2)) (eAnd (cBin (gI fLe) (cCB gLen (aCons (eVar 2) aNil)) (eK (.int 30))) (cCB gAll (aCons (eComp (srcSeq (eVar 2)) (.nm 3) [3] tTrue (eCall m_is_road [false, false] false (aCons (eVar 3) (aCons (eVar 1) aNil)))) aNil)))))))
def m_is_net : Fm := runFn false [false] 3 b_is_net
def b_need_net : Sv := (sIf (tNo (tV (eCall m_is_net [false] false (aCons (eVar 0) aNil)))) (sRaise "NoNet") sNil)
def m_need_net : Fm := runFn false [false] 0 b_need_net
def b_is_place : Sv := (sRet (eCall m_is_among [false, false, false] false (aCons (eVar 1) (aCons (eK (.int 0)) (aCons (cBin (gI fSub) (cBin gIx (eVar 0) (eK (.int 0))) (eK (.int 1))) aNil)))))
def m_is_place : Fm := runFn false [false, false] 0 b_is_place
def b_need_place : Sv := (sIf (tNo (tV (eCall m_is_place [false, false] false (aCons (eVar 0) (aCons (eVar 1) aNil))))) (sRaise "NoPlace") sNil)
def m_need_place : Fm := runFn false [false, false] 0 b_need_place
def b_is_number_of_road : Sv := (sRet (eCall m_is_among [false, false, false] false (aCons (eVar 1) (aCons (eK (.int 0)) (aCons (cBin (gI fSub) (cCB gLen (aCons (cBin gIx (eVar 0) (eK (.int 1))) aNil)) (eK (.int 1))) aNil)))))
def m_is_number_of_road : Fm := runFn false [false, false] 0 b_is_number_of_road
def l_places_on_1 : Sv := (sSeq (sIf (tOr_ (tNo (tV (eCall m_is_number_of_road [false, false] false (aCons (eVar 0) (aCons (eVar 4) aNil))))) (tV (cBin gNe (cBin gIx (cBin gIx (cBin gIx (eVar 0) (eK (.int 1))) (eVar 4)) (eK (.int 0))) (cBin gIx (eVar 3) (cUn gNeg (eK (.int 1))))))) (sRet (eK .none)) sNil)
    (sExp (eMt mAppend (eVar 3) (aCons (cBin gIx (cBin gIx (cBin gIx (eVar 0) (eK (.int 1))) (eVar 4)) (eK (.int 1))) aNil))))
def b_places_on : Sv := (sSeq (sSet 3 (eNew (aCons (eVar 1) aNil)))
    (sSeq (sFor (srcSeq (eVar 2)) (.nm 4) l_places_on_1)
    (sRet (eVar 3))))
def m_places_on : Fm := runFn false [false, false, false] 2 b_places_on
def b_cost_by : Sv := (sRet (cCB gSum (aCons (eComp (srcSeq (eVar 1)) (.nm 2) [2] tTrue (cBin gIx (cBin gIx (cBin gIx (eVar 0) (eK (.int 1))) (eVar 2)) (eK (.int 2)))) aNil)))
def m_cost_by : Fm := runFn false [false, false] 1 b_cost_by
def b_time_by : Sv := (sRet (cCB gSum (aCons (eComp (srcSeq (eVar 1)) (.nm 2) [2] tTrue (cBin gIx (cBin gIx (cBin gIx (eVar 0) (eK (.int 1))) (eVar 2)) (eK (.int 3)))) aNil)))
def m_time_by : Fm := runFn false [false, false] 1 b_time_by
def b_way_in : Sv := (sSeq (sSet 3 (eIf (tV (cUn (gIsa "tuple") (eVar 2))) (eCall m_places_on [false, false, false] false (aCons (eVar 0) (aCons (eVar 1) (aCons (eVar 2) aNil)))) (eK .none)))
    (sRet (eIf (tV (cBin gIsN (eVar 3) (eK .none))) (eK .none) (eTup (aCons (cBin gIx (eVar 3) (cUn gNeg (eK (.int 1)))) (aCons (eCall m_cost_by [false, false] false (aCons (eVar 0) (aCons (eVar 2) aNil))) (aCons (eCall m_time_by [false, false] false (aCons (eVar 0) (aCons (eVar 2) aNil))) aNil)))))))
def m_way_in : Fm := runFn false [false, false, false] 1 b_way_in
def b_way_of : Sv := (sSeq (sExp (eCall m_need_net [false] false (aCons (eVar 0) aNil)))
    (sSeq (sExp (eCall m_need_place [false, false] false (aCons (eVar 0) (aCons (eVar 1) aNil))))
    (sRet (eCall m_way_in [false, false, false] false (aCons (eVar 0) (aCons (eVar 1) (aCons (eVar 2) aNil)))))))
def m_way_of : Fm := runFn false [false, false, false] 0 b_way_of
def b_simple_in : Sv := (sSeq (sSet 3 (eIf (tV (cUn (gIsa "tuple") (eVar 2))) (eCall m_places_on [false, false, false] false (aCons (eVar 0) (aCons (eVar 1) (aCons (eVar 2) aNil)))) (eK .none)))
    (sRet (eAnd (cBin gNotN (eVar 3) (eK .none)) (eCall m_are_unlike [false] false (aCons (eVar 3) aNil)))))
def m_simple_in : Fm := runFn false [false, false, false] 1 b_simple_in
def b_is_simple : Sv := (sSeq (sExp (eCall m_need_net [false] false (aCons (eVar 0) aNil)))
    (sSeq (sExp (eCall m_need_place [false, false] false (aCons (eVar 0) (aCons (eVar 1) aNil))))
    (sRet (eCall m_simple_in [false, false, false] false (aCons (eVar 0) (aCons (eVar 1) (aCons (eVar 2) aNil)))))))
def m_is_simple : Fm := runFn false [false, false, false] 0 b_is_simple
def b_need_shut : Sv := (sSeq (sIf (tOr_ (tNo (tV (cUn (gIsa "tuple") (eVar 2)))) (tNo (tV (cCB gAll (aCons (eComp (srcSeq (eVar 2)) (.nm 3) [3] tTrue (eCall m_is_place [false, false] false (aCons (eVar 0) (aCons (eVar 3) aNil)))) aNil))))) (sRaise "NoShut") sNil)
    (sIf (tOr_ (tNo (tV (eCall m_are_rising [false] false (aCons (eVar 2) aNil)))) (tV (cBin gIn (eVar 1) (eVar 2)))) (sRaise "NoShut") sNil))
def m_need_shut : Fm := runFn false [false, false, false] 1 b_need_shut
def b_open_roads : Sv := (sRet (eComp (srcSeq (cBin gIx (eVar 0) (eK (.int 1)))) (.nm 2) [2] (tAn (tV (cBin gNotIn (cBin gIx (eVar 2) (eK (.int 0))) (eVar 1))) (tV (cBin gNotIn (cBin gIx (eVar 2) (eK (.int 1))) (eVar 1)))) (eVar 2)))
def m_open_roads : Fm := runFn false [false, false] 1 b_open_roads
def l_prices_by_1 : Sv := (sIf (tAn (tV (cBin gDIn (eVar 7) (eVar 3))) (tOr_ (tV (cBin gDNotIn (eVar 6) (eVar 3))) (tV (cBin (gI fGt) (cBin gDIx (eVar 3) (eVar 6)) (cBin gAdd (eVar 8) (cBin gDIx (eVar 3) (eVar 7))))))) (sDPut (eVar 3) (eVar 6) (cBin gAdd (eVar 8) (cBin gDIx (eVar 3) (eVar 7)))) sNil)
def l_prices_by_2 : Sv := (sFor (srcSeq (eVar 4)) (.tp [(.nm 6), (.nm 7), (.nm 8), (.nm 9)]) l_prices_by_1)
def b_prices_by : Sv := (sSeq (sSet 3 (eDic1 1 (.int 0)))
    (sSeq (sSet 4 (eCall m_open_roads [false, false] false (aCons (eVar 0) (aCons (eVar 2) aNil))))
    (sSeq (sFor (srcRng1 (aCons (cBin gIx (eVar 0) (eK (.int 0))) aNil)) (.nm 5) l_prices_by_2)
    (sRet (cCB gTuple (aCons (eComp (srcRng1 (aCons (cBin gIx (eVar 0) (eK (.int 0))) aNil)) (.nm 10) [10] tTrue (eDGet (eVar 3) (eVar 10))) aNil))))))
def m_prices_by : Fm := runFn false [false, false, false] 8 b_prices_by
def b_prices_of : Sv := (sSeq (sExp (eCall m_need_net [false] false (aCons (eVar 0) aNil)))
    (sSeq (sExp (eCall m_need_place [false, false] false (aCons (eVar 0) (aCons (eVar 1) aNil))))
    (sSeq (sExp (eCall m_need_shut [false, false, false] false (aCons (eVar 0) (aCons (eVar 1) (aCons (eVar 2) aNil)))))
    (sRet (eCall m_prices_by [false, false, false] false (aCons (eVar 0) (aCons (eVar 1) (aCons (eVar 2) aNil))))))))
def m_prices_of : Fm := runFn false [false, false, false] 0 b_prices_of
def b_does_hold : Sv := (sSeq (sAsg (eVar 1) (.tp [(.nm 2), (.nm 3), (.nm 4), (.nm 5)]))
    (sSeq (sIf (tV (cBin gIsN (cBin gIx (eVar 0) (eVar 3)) (eK .none))) (sRet (eK (.bool true))) sNil)
    (sRet (eAnd (cBin gNotN (cBin gIx (eVar 0) (eVar 2)) (eK .none)) (cBin (gI fLe) (cBin gIx (eVar 0) (eVar 2)) (cBin gAdd (eVar 4) (cBin gIx (eVar 0) (eVar 3))))))))
def m_does_hold : Fm := runFn false [false, false] 4 b_does_hold
def b_prices_hold : Sv := (sSeq (sIf (tOr_ (tNo (tV (cUn (gIsa "tuple") (eVar 2)))) (tV (cBin gNe (cCB gLen (aCons (eVar 2) aNil)) (cBin gIx (eVar 0) (eK (.int 0)))))) (sRet (eK (.bool false))) sNil)
    (sSeq (sIf (tOr_ (tNo (tV (cCB gAll (aCons (eComp (srcSeq (eVar 2)) (.nm 6) [6] tTrue (eOr (cBin gIsN (eVar 6) (eK .none)) (eAnd (eCall m_is_whole [false] false (aCons (eVar 6) aNil)) (cBin (gI fGe) (eVar 6) (eK (.int 0)))))) aNil)))) (tV (cBin gNe (cBin gIx (eVar 2) (eVar 1)) (eK (.int 0))))) (sRet (eK (.bool false))) sNil)
    (sSeq (sIf (tNo (tV (cCB gAll (aCons (eComp (srcSeq (eVar 3)) (.nm 5) [5] tTrue (cBin gIsN (cBin gIx (eVar 2) (eVar 5)) (eK .none))) aNil)))) (sRet (eK (.bool false))) sNil)
    (sRet (cCB gAll (aCons (eComp (srcSeq (eCall m_open_roads [false, false] false (aCons (eVar 0) (aCons (eVar 3) aNil)))) (.nm 4) [4] tTrue (eCall m_does_hold [false, false] false (aCons (eVar 2) (aCons (eVar 4) aNil)))) aNil))))))
def m_prices_hold : Fm := runFn false [false, false, false, false] 3 b_prices_hold
def b_are_prices : Sv := (sSeq (sExp (eCall m_need_net [false] false (aCons (eVar 0) aNil)))
    (sSeq (sExp (eCall m_need_place [false, false] false (aCons (eVar 0) (aCons (eVar 1) aNil))))
    (sSeq (sExp (eCall m_need_shut [false, false, false] false (aCons (eVar 0) (aCons (eVar 1) (aCons (eVar 3) aNil)))))
    (sRet (eCall m_prices_hold [false, false, false, false] false (aCons (eVar 0) (aCons (eVar 1) (aCons (eVar 2) (aCons (eVar 3) aNil)))))))))
def m_are_prices : Fm := runFn false [false, false, false, false] 0 b_are_prices
def b__law_cell_at : Sv := (sSeq (sIf (tV (cBin (gI fLt) (eVar 1) (cCB gLen (aCons (eVar 0) aNil)))) (sRet (cBin gIx (eVar 0) (eVar 1))) sNil)
    (sRet (eK (.int 0))))
def m__law_cell_at : Fm := runFn false [false, false] 0 b__law_cell_at
def b__law_state : Sv := (sSeq (sSet 2 (eCall m__law_cell_at [false, false] false (aCons (eVar 0) (aCons (eVar 1) aNil))))
    (sRet (eNew (aCons (cCB gMax2 (aCons (eK (.int 0)) (aCons (cBin (gI fSub) (eVar 2) (cBin (gI fPow) (eK (.int 10)) (eK (.int 18)))) aNil))) (aCons (cBin (gI fMod) (eVar 2) (eK (.int 2147483647))) aNil)))))
def m__law_state : Fm := runFn true [false, false] 1 b__law_state
def b__law_take : Sv := (sSeq (sIf (tV (cBin (gI fGt) (cBin gIx (eVar 0) (eK (.int 0))) (eK (.int 0)))) (sSeq (sSet 2 (cBin (gI fMod) (cBin gIx (eVar 0) (eK (.int 0))) (eVar 1)))
    (sSeq (sPut (eVar 0) (eK (.int 0)) (cBin (gI fDiv) (cBin gIx (eVar 0) (eK (.int 0))) (eVar 1)))
    (sRet (eVar 2)))) sNil)
    (sSeq (sPut (eVar 0) (eK (.int 1)) (cBin (gI fMod) (cBin gAdd (cBin (gI fMul) (cBin gIx (eVar 0) (eK (.int 1))) (eK (.int 48271))) (eK (.int 29))) (eK (.int 2147483647))))
    (sSeq (sSet 3 (cBin (gI fMod) (cBin gAdd (cBin gAdd (cBin (gI fMul) (cBin gIx (eVar 0) (eK (.int 1))) (cBin gIx (eVar 0) (eK (.int 1)))) (cBin (gI fMul) (eK (.int 39373)) (cBin gIx (eVar 0) (eK (.int 1))))) (eK (.int 7))) (eK (.int 2147483629))))
    (sSeq (sSet 3 (cBin (gI fMod) (cBin gAdd (cBin (gI fMul) (eVar 3) (eVar 3)) (cBin (gI fMul) (eK (.int 16807)) (eVar 3))) (eK (.int 2147483587))))
    (sRet (cBin (gI fMod) (cBin (gI fDiv) (eVar 3) (eK (.int 8))) (eVar 1)))))))
def m__law_take : Fm := runFn false [true, false] 2 b__law_take
def b__law_marks : Sv := (sSeq (sSet 1 (eLst (aCons (eIsE 0 "NoNet") (aCons (eIsE 0 "NoPlace") (aCons (eIsE 0 "NoRoad") (aCons (eIsE 0 "NoMany") aNil))))))
    (sSeq (sSet 1 (cBin gAdd (eVar 1) (eLst (aCons (eIsE 0 "NoShut") (aCons (eIsE 0 "NoCost") (aCons (eIsE 0 "NoNumber") (aCons (eIsE 0 "NoWay") aNil)))))))
    (sSeq (sSet 1 (cBin gAdd (eVar 1) (eLst (aCons (eIsE 0 "NoWord") (aCons (eIsE 0 "NoTime") (aCons (eIsE 0 "NoChange") (aCons (eIsE 0 "NoPaper") aNil)))))))
    (sSeq (sSet 1 (cBin gAdd (eVar 1) (eLst (aCons (eIsE 0 "NoLine") (aCons (eIsE 0 "NoText") (aCons (eIsE 0 "NoAsk") (aCons (eIsE 0 "Nothing") aNil)))))))
    (sRet (cBin gAdd (eVar 1) (eLst (aCons (eIsE 0 "TooMany") aNil))))))))
def m__law_marks : Exn → Option PyData := runW 1 b__law_marks
def b__law_word : Sv := (sSeq (sSet 1 (eCallW 0 m__law_marks))
    (sSeq (sIf (tOr_ (tV (cBin gNe (eMt mCount (eVar 1) (aCons (eK (.bool true)) aNil)) (eK (.int 1)))) (tNo (tV (eIsE 0 "ValueError")))) (sRet (eTup (aCons (eK (.str "other")) aNil))) sNil)
    (sSeq (sSet 2 (eMt mIndex (eVar 1) (aCons (eK (.bool true)) aNil)))
    (sSeq (sIf (tV (cBin gNe (eLst (aCons (eIsE 0 "NoThing") (aCons (eIsE 0 "NotNow") aNil))) (eLst (aCons (cBin (gI fLt) (eVar 2) (eK (.int 14))) (aCons (cBin (gI fGt) (eVar 2) (eK (.int 13))) aNil))))) (sRet (eTup (aCons (eK (.str "other")) aNil))) sNil)
    (sSeq (sSet 3 (eLst (aCons (eK (.str "net")) (aCons (eK (.str "place")) (aCons (eK (.str "road")) (aCons (eK (.str "many")) (aCons (eK (.str "shut")) (aCons (eK (.str "cost")) (aCons (eK (.str "number")) (aCons (eK (.str "way")) (aCons (eK (.str "word")) (aCons (eK (.str "time")) (aCons (eK (.str "change")) (aCons (eK (.str "paper")) (aCons (eK (.str "line")) aNil)))))))))))))))
    (sSeq (sSet 4 (cBin gIx (cBin gAdd (eVar 3) (eLst (aCons (eK (.str "text")) (aCons (eK (.str "ask")) (aCons (eK (.str "nothing")) (aCons (eK (.str "more")) aNil)))))) (eVar 2)))
    (sSeq (sIf (tV (cBin gEq (eVar 4) (eK (.str "text")))) sNever sNil)
    (sSeq (sIf (tV (cBin gEq (eVar 4) (eK (.str "ask")))) sNever sNil)
    (sRet (eIf (tV (cBin gEq (eVar 4) (eK (.str "more")))) eNever (eTup (aCons (eVar 4) aNil))))))))))))
def m__law_word : Exn → Option PyData := runW 4 b__law_word
def ys_ : List Str := ["NoNet", "NoPlace", "NoRoad", "NoMany", "NoShut", "NoCost", "NoNumber", "NoWay", "NoWord", "NoTime", "NoChange", "NoPaper", "NoLine", "NoText", "NoAsk", "Nothing", "TooMany", "ValueError", "NoThing", "NotNow"]
def b__law_number : Sv := (sRet (eAnd (cUn (gIsa "int") (eVar 0)) (eAnd (eNot (cUn (gIsa "bool") (eVar 0))) (eChain (gI fLe) (gI fLe) (eVar 1) (eVar 0) (eVar 2)))))
def m__law_number : Fm := runFn false [false, false, false] 0 b__law_number
def l__law_net_1 : Sv := (sSeq (sSet 7 (eCall m__law_take [true, false] false (aCons (eVar 0) (aCons (eVar 3) aNil))))
    (sSeq (sSet 8 (cBin (gI fMod) (cBin gAdd (cBin gAdd (eVar 7) (eK (.int 1))) (eCall m__law_take [true, false] false (aCons (eVar 0) (aCons (cBin (gI fSub) (eVar 3) (eK (.int 1))) aNil)))) (eVar 3)))
    (sSeq (sIf (tAn (tV (cBin gEq (eCall m__law_take [true, false] false (aCons (eVar 0) (aCons (eK (.int 5)) aNil))) (eK (.int 0)))) (tV (cBin gNe (eVar 4) (eLst aNil)))) (sAsg (eSl (cBin gIx (eVar 4) (cUn gNeg (eK (.int 1)))) oNone (oSome (eK (.int 2)))) (.tp [(.nm 7), (.nm 8)])) sNil)
    (sExp (eMt mAppend (eVar 4) (aCons (eTup (aCons (eVar 7) (aCons (eVar 8) (aCons (cBin gAdd (eK (.int 1)) (eCall m__law_take [true, false] false (aCons (eVar 0) (aCons (eVar 5) aNil)))) (aCons (eCall m__law_take [true, false] false (aCons (eVar 0) (aCons (cBin gIx (eLst (aCons (eK (.int 3)) (aCons (eK (.int 100)) aNil))) (eCall m__law_take [true, false] false (aCons (eVar 0) (aCons (eK (.int 2)) aNil)))) aNil))) aNil))))) aNil))))))
def b__law_net : Sv := (sSeq (sPar 3 4 (aCons (cBin gAdd (eK (.int 1)) (eCall m__law_take [true, false] false (aCons (eVar 0) (aCons (eVar 1) aNil)))) (aCons (eNew aNil) aNil)))
    (sSeq (sSet 5 (cBin gIx (eLst (aCons (eK (.int 2)) (aCons (eK (.int 4)) (aCons (eK (.int 99)) aNil)))) (eCall m__law_take [true, false] false (aCons (eVar 0) (aCons (eK (.int 3)) aNil)))))
    (sSeq (sFor (srcRng1 (aCons (eIf (tV (cBin (gI fGt) (eVar 3) (eK (.int 1)))) (cBin gIx (eLst (aCons (eVar 2) (aCons (eCall m__law_take [true, false] false (aCons (eVar 0) (aCons (cBin gAdd (eVar 2) (eK (.int 1))) aNil))) aNil))) (eCall m__law_take [true, false] false (aCons (eVar 0) (aCons (eK (.int 2)) aNil)))) (eK (.int 0))) aNil)) (.nm 6) l__law_net_1)
    (sRet (eTup (aCons (eVar 3) (aCons (cCB gTuple (aCons (eVar 4) aNil)) aNil)))))))
def m__law_net : Fm := runFn false [true, false, false] 6 b__law_net
def l__law_is_net_1 : Sv := (sSeq (sIf (tOr_ (tNo (tV (cUn (gIsa "tuple") (eVar 1)))) (tOr_ (tV (cBin gNe (cCB gLen (aCons (eVar 1) aNil)) (eK (.int 4)))) (tNo (tV (eCall m__law_number [false, false, false] false (aCons (cBin gIx (eVar 1) (eK (.int 2))) (aCons (eK (.int 1)) (aCons (eK (.int 99)) aNil)))))))) (sRet (eK (.bool false))) sNil)
    (sSeq (sSet 2 (eComp (srcSeq (eSl (eVar 1) oNone (oSome (eK (.int 2))))) (.nm 3) [3] tTrue (eCall m__law_number [false, false, false] false (aCons (eVar 3) (aCons (eK (.int 0)) (aCons (cBin (gI fSub) (cBin gIx (eVar 0) (eK (.int 0))) (eK (.int 1))) aNil))))))
    (sIf (tOr_ (tV (cBin gNe (eVar 2) (eLst (aCons (eK (.bool true)) (aCons (eK (.bool true)) aNil))))) (tOr_ (tV (cBin gEq (cBin gIx (eVar 1) (eK (.int 0))) (cBin gIx (eVar 1) (eK (.int 1))))) (tNo (tV (eCall m__law_number [false, false, false] false (aCons (cBin gIx (eVar 1) (eK (.int 3))) (aCons (eK (.int 0)) (aCons (eK (.int 99)) aNil)))))))) (sRet (eK (.bool false))) sNil)))
def b__law_is_net : Sv := (sSeq (sIf (tOr_ (tNo (tV (cUn (gIsa "tuple") (eVar 0)))) (tOr_ (tV (cBin gNe (cCB gLen (aCons (eVar 0) aNil)) (eK (.int 2)))) (tNo (tV (eCall m__law_number [false, false, false] false (aCons (cBin gIx (eVar 0) (eK (.int 0))) (aCons (eK (.int 1)) (aCons (eK (.int 10)) aNil)))))))) (sRet (eK (.bool false))) sNil)
    (sSeq (sIf (tOr_ (tNo (tV (cUn (gIsa "tuple") (cBin gIx (eVar 0) (eK (.int 1)))))) (tV (cBin (gI fGt) (cCB gLen (aCons (cBin gIx (eVar 0) (eK (.int 1))) aNil)) (eK (.int 30))))) (sRet (eK (.bool false))) sNil)
    (sSeq (sFor (srcSeq (cBin gIx (eVar 0) (eK (.int 1)))) (.nm 1) l__law_is_net_1)
    (sRet (eK (.bool true))))))
def m__law_is_net : Fm := runFn false [false] 3 b__law_is_net
def b__law_spoilt_r0 : Sv := (sSeq (sPar 3 4 (aCons (eCall m__law_take [true, false] false (aCons (eVar 0) (aCons (cBin gAdd (cCB gLen (aCons (eVar 1) aNil)) (eK (.int 1))) aNil))) (aCons (eCall m__law_take [true, false] false (aCons (eVar 0) (aCons (eK (.int 7)) aNil))) aNil)))
    (sSeq (sSet 5 (cBin gIx (eLst (aCons (cUn gNeg (eK (.int 1))) (aCons (eK (.int 0)) (aCons (eK (.int 1)) (aCons (eK (.int 9)) (aCons (eK (.int 10)) (aCons (eK (.int 99)) (aCons (eK (.int 100)) (aCons (eK (.bool true)) (aCons (eK (.bool false)) (aCons (eK .none) (aCons (eK (.str "1")) (aCons (eTup aNil) (aCons (cBin (gI fPow) (eK (.int 10)) (eK (.int 29))) (aCons (eK (.int 5)) aNil))))))))))))))) (eCall m__law_take [true, false] false (aCons (eVar 0) (aCons (eK (.int 14)) aNil)))))
    (sSeq (sIf (tAn (tV (cBin (gI fGt) (eVar 2) (eK (.int 0)))) (tAn (tV (cBin (gI fLt) (eVar 3) (cCB gLen (aCons (eVar 1) aNil)))) (tAn (tV (cUn (gIsa "tuple") (cBin gIx (eVar 1) (eVar 3)))) (tV (cBin (gI fGt) (eCall m__law_take [true, false] false (aCons (eVar 0) (aCons (eK (.int 4)) aNil))) (eK (.int 0))))))) sNever sNil)
    (sSeq (sIf (tV (cBin gEq (eVar 4) (eK (.int 0)))) (sRet (cBin gIx (eLst (aCons (cCB gList (aCons (eVar 1) aNil)) (aCons (cUn gRev (eVar 1)) (aCons (cBin gAdd (eVar 1) (eSl (eVar 1) (oSome (cUn gNeg (eK (.int 1)))) oNone)) (aCons (eSl (eVar 1) oNone (oSome (cUn gNeg (eK (.int 1))))) aNil))))) (eCall m__law_take [true, false] false (aCons (eVar 0) (aCons (eK (.int 4)) aNil))))) sNil)
    (sSeq (sIf (tV (cBin gEq (eVar 4) (eK (.int 1)))) (sRet (cBin gAdd (cBin gAdd (eSl (eVar 1) oNone (oSome (eVar 3))) (eTup (aCons (eVar 5) aNil))) (eSl (eVar 1) (oSome (eVar 3)) oNone))) sNil)
    (sSeq (sIf (tAn (tV (cBin (gI fLt) (eVar 4) (eK (.int 4)))) (tAn (tV (cBin (gI fLt) (eVar 3) (cCB gLen (aCons (eVar 1) aNil)))) (tV (cUn (gIsa "int") (cBin gIx (eVar 1) (eVar 3)))))) (sRet (cBin gAdd (cBin gAdd (eSl (eVar 1) oNone (oSome (eVar 3))) (eTup (aCons (cBin gAdd (cBin gIx (eVar 1) (eVar 3)) (cBin gIx (eLst (aCons (eK (.int 1)) (aCons (cUn gNeg (eK (.int 1))) aNil))) (eCall m__law_take [true, false] false (aCons (eVar 0) (aCons (eK (.int 2)) aNil))))) aNil))) (eSl (eVar 1) (oSome (cBin gAdd (eVar 3) (eK (.int 1)))) oNone))) sNil)
    (sRet (cBin gAdd (cBin gAdd (eSl (eVar 1) oNone (oSome (eVar 3))) (eTup (aCons (eVar 5) aNil))) (eSl (eVar 1) (oSome (cBin gAdd (eVar 3) (eK (.int 1)))) oNone)))))))))
def m__law_spoilt_r0 : Fm := runFn false [true, false, false] 3 b__law_spoilt_r0
def b__law_spoilt_r1 : Sv := (sSeq (sPar 3 4 (aCons (eCall m__law_take [true, false] false (aCons (eVar 0) (aCons (cBin gAdd (cCB gLen (aCons (eVar 1) aNil)) (eK (.int 1))) aNil))) (aCons (eCall m__law_take [true, false] false (aCons (eVar 0) (aCons (eK (.int 7)) aNil))) aNil)))
    (sSeq (sSet 5 (cBin gIx (eLst (aCons (cUn gNeg (eK (.int 1))) (aCons (eK (.int 0)) (aCons (eK (.int 1)) (aCons (eK (.int 9)) (aCons (eK (.int 10)) (aCons (eK (.int 99)) (aCons (eK (.int 100)) (aCons (eK (.bool true)) (aCons (eK (.bool false)) (aCons (eK .none) (aCons (eK (.str "1")) (aCons (eTup aNil) (aCons (cBin (gI fPow) (eK (.int 10)) (eK (.int 29))) (aCons (eK (.int 5)) aNil))))))))))))))) (eCall m__law_take [true, false] false (aCons (eVar 0) (aCons (eK (.int 14)) aNil)))))
    (sSeq (sIf (tAn (tV (cBin (gI fGt) (eVar 2) (eK (.int 0)))) (tAn (tV (cBin (gI fLt) (eVar 3) (cCB gLen (aCons (eVar 1) aNil)))) (tAn (tV (cUn (gIsa "tuple") (cBin gIx (eVar 1) (eVar 3)))) (tV (cBin (gI fGt) (eCall m__law_take [true, false] false (aCons (eVar 0) (aCons (eK (.int 4)) aNil))) (eK (.int 0))))))) (sRet (cBin gAdd (cBin gAdd (eSl (eVar 1) oNone (oSome (eVar 3))) (eTup (aCons (eCall m__law_spoilt_r0 [true, false, false] false (aCons (eVar 0) (aCons (cBin gIx (eVar 1) (eVar 3)) (aCons (cBin (gI fSub) (eVar 2) (eK (.int 1))) aNil)))) aNil))) (eSl (eVar 1) (oSome (cBin gAdd (eVar 3) (eK (.int 1)))) oNone))) sNil)
    (sSeq (sIf (tV (cBin gEq (eVar 4) (eK (.int 0)))) (sRet (cBin gIx (eLst (aCons (cCB gList (aCons (eVar 1) aNil)) (aCons (cUn gRev (eVar 1)) (aCons (cBin gAdd (eVar 1) (eSl (eVar 1) (oSome (cUn gNeg (eK (.int 1)))) oNone)) (aCons (eSl (eVar 1) oNone (oSome (cUn gNeg (eK (.int 1))))) aNil))))) (eCall m__law_take [true, false] false (aCons (eVar 0) (aCons (eK (.int 4)) aNil))))) sNil)
    (sSeq (sIf (tV (cBin gEq (eVar 4) (eK (.int 1)))) (sRet (cBin gAdd (cBin gAdd (eSl (eVar 1) oNone (oSome (eVar 3))) (eTup (aCons (eVar 5) aNil))) (eSl (eVar 1) (oSome (eVar 3)) oNone))) sNil)
    (sSeq (sIf (tAn (tV (cBin (gI fLt) (eVar 4) (eK (.int 4)))) (tAn (tV (cBin (gI fLt) (eVar 3) (cCB gLen (aCons (eVar 1) aNil)))) (tV (cUn (gIsa "int") (cBin gIx (eVar 1) (eVar 3)))))) (sRet (cBin gAdd (cBin gAdd (eSl (eVar 1) oNone (oSome (eVar 3))) (eTup (aCons (cBin gAdd (cBin gIx (eVar 1) (eVar 3)) (cBin gIx (eLst (aCons (eK (.int 1)) (aCons (cUn gNeg (eK (.int 1))) aNil))) (eCall m__law_take [true, false] false (aCons (eVar 0) (aCons (eK (.int 2)) aNil))))) aNil))) (eSl (eVar 1) (oSome (cBin gAdd (eVar 3) (eK (.int 1)))) oNone))) sNil)
    (sRet (cBin gAdd (cBin gAdd (eSl (eVar 1) oNone (oSome (eVar 3))) (eTup (aCons (eVar 5) aNil))) (eSl (eVar 1) (oSome (cBin gAdd (eVar 3) (eK (.int 1)))) oNone)))))))))
def m__law_spoilt_r1 : Fm := runFn false [true, false, false] 3 b__law_spoilt_r1
def b__law_spoilt : Sv := (sSeq (sPar 3 4 (aCons (eCall m__law_take [true, false] false (aCons (eVar 0) (aCons (cBin gAdd (cCB gLen (aCons (eVar 1) aNil)) (eK (.int 1))) aNil))) (aCons (eCall m__law_take [true, false] false (aCons (eVar 0) (aCons (eK (.int 7)) aNil))) aNil)))
    (sSeq (sSet 5 (cBin gIx (eLst (aCons (cUn gNeg (eK (.int 1))) (aCons (eK (.int 0)) (aCons (eK (.int 1)) (aCons (eK (.int 9)) (aCons (eK (.int 10)) (aCons (eK (.int 99)) (aCons (eK (.int 100)) (aCons (eK (.bool true)) (aCons (eK (.bool false)) (aCons (eK .none) (aCons (eK (.str "1")) (aCons (eTup aNil) (aCons (cBin (gI fPow) (eK (.int 10)) (eK (.int 29))) (aCons (eK (.int 5)) aNil))))))))))))))) (eCall m__law_take [true, false] false (aCons (eVar 0) (aCons (eK (.int 14)) aNil)))))
    (sSeq (sIf (tAn (tV (cBin (gI fGt) (eVar 2) (eK (.int 0)))) (tAn (tV (cBin (gI fLt) (eVar 3) (cCB gLen (aCons (eVar 1) aNil)))) (tAn (tV (cUn (gIsa "tuple") (cBin gIx (eVar 1) (eVar 3)))) (tV (cBin (gI fGt) (eCall m__law_take [true, false] false (aCons (eVar 0) (aCons (eK (.int 4)) aNil))) (eK (.int 0))))))) (sRet (cBin gAdd (cBin gAdd (eSl (eVar 1) oNone (oSome (eVar 3))) (eTup (aCons (eCall m__law_spoilt_r1 [true, false, false] false (aCons (eVar 0) (aCons (cBin gIx (eVar 1) (eVar 3)) (aCons (cBin (gI fSub) (eVar 2) (eK (.int 1))) aNil)))) aNil))) (eSl (eVar 1) (oSome (cBin gAdd (eVar 3) (eK (.int 1)))) oNone))) sNil)
    (sSeq (sIf (tV (cBin gEq (eVar 4) (eK (.int 0)))) (sRet (cBin gIx (eLst (aCons (cCB gList (aCons (eVar 1) aNil)) (aCons (cUn gRev (eVar 1)) (aCons (cBin gAdd (eVar 1) (eSl (eVar 1) (oSome (cUn gNeg (eK (.int 1)))) oNone)) (aCons (eSl (eVar 1) oNone (oSome (cUn gNeg (eK (.int 1))))) aNil))))) (eCall m__law_take [true, false] false (aCons (eVar 0) (aCons (eK (.int 4)) aNil))))) sNil)
    (sSeq (sIf (tV (cBin gEq (eVar 4) (eK (.int 1)))) (sRet (cBin gAdd (cBin gAdd (eSl (eVar 1) oNone (oSome (eVar 3))) (eTup (aCons (eVar 5) aNil))) (eSl (eVar 1) (oSome (eVar 3)) oNone))) sNil)
    (sSeq (sIf (tAn (tV (cBin (gI fLt) (eVar 4) (eK (.int 4)))) (tAn (tV (cBin (gI fLt) (eVar 3) (cCB gLen (aCons (eVar 1) aNil)))) (tV (cUn (gIsa "int") (cBin gIx (eVar 1) (eVar 3)))))) (sRet (cBin gAdd (cBin gAdd (eSl (eVar 1) oNone (oSome (eVar 3))) (eTup (aCons (cBin gAdd (cBin gIx (eVar 1) (eVar 3)) (cBin gIx (eLst (aCons (eK (.int 1)) (aCons (cUn gNeg (eK (.int 1))) aNil))) (eCall m__law_take [true, false] false (aCons (eVar 0) (aCons (eK (.int 2)) aNil))))) aNil))) (eSl (eVar 1) (oSome (cBin gAdd (eVar 3) (eK (.int 1)))) oNone))) sNil)
    (sRet (cBin gAdd (cBin gAdd (eSl (eVar 1) oNone (oSome (eVar 3))) (eTup (aCons (eVar 5) aNil))) (eSl (eVar 1) (oSome (cBin gAdd (eVar 3) (eK (.int 1)))) oNone)))))))))
def m__law_spoilt : Fm := runFn false [true, false, false] 3 b__law_spoilt
def b__law_odd : Sv := (sSeq (sSet 1 (eLst (aCons (eK .none) (aCons (eK (.bool true)) (aCons (eK (.bool false)) (aCons (eK (.int 0)) (aCons (eK (.int 1)) (aCons (cUn gNeg (eK (.int 1))) (aCons (eK (.int 99)) (aCons (eK (.int 100)) (aCons (cBin (gI fPow) (eK (.int 10)) (eK (.int 29))) (aCons (eK (.str "")) (aCons (eK (.str "0")) (aCons (eK (.str "roads")) (aCons (eTup aNil) (aCons (eLst aNil) (aCons (eK (.dict [])) (aCons (eTup (aCons (eK (.int 0)) aNil)) (aCons (eLst (aCons (eK (.int 0)) aNil)) (aCons (eTup (aCons (eK (.int 0)) (aCons (eK (.int 1)) aNil))) (aCons (eTup (aCons (eK (.bool true)) aNil)) aNil)))))))))))))))))))))
    (sRet (cBin gIx (cBin gAdd (eVar 1) (eLst (aCons (eTup (aCons (eTup aNil) aNil)) (aCons (eK (.dict [(.int 0, .int 1)])) (aCons (eTup (aCons (eK (.int 1)) (aCons (eTup aNil) aNil))) (aCons (eLst (aCons (eK (.int 1)) (aCons (eTup aNil) aNil))) (aCons (eTup (aCons (eK .none) (aCons (eK (.int 0)) aNil))) (aCons (eTup (aCons (eK (.str "bound")) aNil)) (aCons (eTup (aCons (eTup (aCons (eK (.int 0)) (aCons (eK (.int 1)) aNil))) aNil)) aNil))))))))) (eCall m__law_take [true, false] false (aCons (eVar 0) (aCons (eK (.int 26)) aNil))))))
def m__law_odd : Fm := runFn false [true] 1 b__law_odd
def b__law_refused : Sv := (sLams 1 2 false R_ m__law_word [(eCall m_way_of [false, false, false] false (aCons (eVar 0) (aCons (eK .none) (aCons (eK .none) aNil)))), (eCall m_is_simple [false, false, false] false (aCons (eVar 0) (aCons (eK (.int 99)) (aCons (eTup aNil) aNil)))), (eCallA m_prices_of [false, false, false] false (2, [], [.ix 0, .ix 1, .df 0 (.tuple [])]) (aCons (eVar 0) (aCons (eK .none) aNil)) aNil), (eCallA m_are_prices [false, false, false, false] false (3, [], [.ix 0, .ix 1, .ix 2, .df 0 (.tuple [])]) (aCons (eVar 0) (aCons (eK (.int 0)) (aCons (eTup aNil) aNil))) aNil)] (eRepG gRep (aCons (eTup (aCons (eK (.str "net")) aNil)) aNil) (eK (.int 4))))
def m__law_refused : Fm := runFn false [false] 2 b__law_refused
def l_law_1 : Sv := (sIf (tV (cBin gNe (cCB gReprX (aCons (eCall m_is_net [false] false (aCons (eVar 3) aNil)) aNil)) (cCB gReprX (aCons (eCall m__law_is_net [false] false (aCons (eVar 3) aNil)) aNil)))) (sRet (eK (.bool false))) sNil)
def l_law_2 : Sv := (sExp (eMt mAppend (eVar 7) (aCons (eCall m__law_spoilt [true, false, false] false (aCons (eVar 5) (aCons (eVar 6) (aCons (eK (.int 2)) aNil)))) aNil)))
def l_law_3 : Sv := (sSeq (sPar 9 10 (aCons (cCB gReprX (aCons (eVar 3) aNil)) (aCons (eCall m__law_is_net [false] false (aCons (eVar 3) aNil)) aNil)))
    (sIf (tOr_ (tV (cBin gNe (cCB gReprX (aCons (eCall m_is_net [false] false (aCons (eVar 3) aNil)) aNil)) (cCB gReprX (aCons (eVar 10) aNil)))) (tOr_ (tAn (tNo (tV (eVar 10))) (tNo (tV (eCall m__law_refused [false] false (aCons (eVar 3) aNil))))) (tV (cBin gNe (cCB gReprX (aCons (eVar 3) aNil)) (eVar 9))))) (sRet (eK (.bool false))) sNil))
def l_law_4 : Sv := (sSeq (sSet 5 (eCallN m__law_state [false, false] (aCons (eVar 0) (aCons (eVar 4) aNil))))
    (sSeq (sSet 6 (eCall m__law_net [true, false, false] false (aCons (eVar 5) (aCons (eK (.int 10)) (aCons (eK (.int 30)) aNil)))))
    (sSeq (sSet 7 (eNew (aCons (eVar 6) (aCons (cCB gList (aCons (eVar 6) aNil)) (aCons (cUn gRev (eVar 6)) (aCons (cBin gAdd (eVar 6) (eTup (aCons (eTup aNil) aNil))) (aCons (cBin gIx (eVar 6) (eK (.int 1))) (aCons (eCall m__law_odd [true] false (aCons (eVar 5) aNil)) (aCons (eTup (aCons (cBin gIx (eVar 6) (eK (.int 0))) (aCons (cBin gMulE (cBin gIx (eVar 6) (eK (.int 1))) (eK (.int 2))) aNil))) aNil)))))))))
    (sSeq (sFor (srcRng1 (aCons (eK (.int 14)) aNil)) (.nm 8) l_law_2)
    (sFrz 0 7 (sFor (srcSeq (eVar 7)) (.nm 3) l_law_3))))))
def b_law : Sv := (sSeq (sSet 1 (eTup (aCons (eK (.int 0)) (aCons (eK (.int 1)) (aCons (eK (.int 1)) (aCons (eK (.int 0)) aNil))))))
    (sSeq (sSet 2 (eNew (aCons (eTup (aCons (eK (.int 1)) (aCons (eTup aNil) aNil))) (aCons (eTup (aCons (eK (.int 10)) (aCons (eTup aNil) aNil))) (aCons (eTup (aCons (eK (.int 11)) (aCons (eTup aNil) aNil))) (aCons (eTup (aCons (eK (.int 0)) (aCons (eTup aNil) aNil))) (aCons (eTup (aCons (eK (.int 2)) (aCons (cBin gMul (eTup (aCons (eVar 1) aNil)) (eK (.int 30))) aNil))) (aCons (eTup (aCons (eK (.int 2)) (aCons (cBin gMul (eTup (aCons (eVar 1) aNil)) (eK (.int 31))) aNil))) (aCons (eTup (aCons (eK (.int 2)) (aCons (eTup (aCons (eTup (aCons (eK (.int 0)) (aCons (eK (.int 0)) (aCons (eK (.int 1)) (aCons (eK (.int 0)) aNil))))) aNil)) aNil))) aNil)))))))))
    (sSeq (sExp (eMt mAppend (eVar 2) (aCons (eTup (aCons (eK (.int 1)) (aCons (eTup (aCons (eVar 1) aNil)) aNil))) aNil)))
    (sSeq (sSet 2 (eCatN (eVar 2) (eLst (aCons (eTup (aCons (eK (.int 2)) (aCons (eTup (aCons (eTup (aCons (eK (.int 0)) (aCons (eK (.int 1)) (aCons (eK (.int 0)) (aCons (eK (.int 0)) aNil))))) aNil)) aNil))) (aCons (eTup (aCons (eK (.int 2)) (aCons (eTup (aCons (eTup (aCons (eK (.int 0)) (aCons (eK (.int 1)) (aCons (eK (.int 100)) (aCons (eK (.int 0)) aNil))))) aNil)) aNil))) (aCons (eTup (aCons (eK (.int 2)) (aCons (eTup (aCons (eTup (aCons (eK (.int 0)) (aCons (eK (.int 1)) (aCons (eK (.int 99)) (aCons (eK (.int 99)) aNil))))) aNil)) aNil))) (aCons (eTup (aCons (eK (.int 2)) (aCons (eTup (aCons (eTup (aCons (eK (.int 0)) (aCons (eK (.int 1)) (aCons (eK (.int 1)) (aCons (eK (.int 100)) aNil))))) aNil)) aNil))) aNil)))))))
    (sSeq (sFor (srcSeq (cBin gAdd (eVar 2) (eLst (aCons (eTup (aCons (eK (.int 2)) (aCons (eTup (aCons (eTup (aCons (eK (.int 0)) (aCons (eK (.int 2)) (aCons (eK (.int 1)) (aCons (eK (.int 0)) aNil))))) aNil)) aNil))) (aCons (eTup (aCons (eK (.int 2)) (aCons (eLst (aCons (eVar 1) aNil)) aNil))) (aCons (eTup (aCons (eK (.bool true)) (aCons (eTup aNil) aNil))) (aCons (eTup (aCons (eK (.int 2)) (aCons (eTup (aCons (eTup (aCons (eK (.int 0)) (aCons (eK (.bool true)) (aCons (eK (.int 1)) (aCons (eK (.int 0)) aNil))))) aNil)) aNil))) (aCons (eTup (aCons (eK (.int 2)) (aCons (eTup (aCons (eTup (aCons (eK (.int 0)) (aCons (eK (.int 1)) (aCons (eK (.int 1)) aNil)))) aNil)) aNil))) aNil)))))))) (.nm 3) l_law_1)
    (sSeq (sFor (srcRng1 (aCons (cCB gMax2 (aCons (eK (.int 1)) (aCons (cCB gMin2 (aCons (cCB gLen (aCons (eVar 0) aNil)) (aCons (eK (.int 4)) aNil))) aNil))) aNil)) (.nm 4) l_law_4)
    (sRet (eK (.bool true)))))))))
def m_law : Fm := runFn false [false] 10 b_law
end FL
namespace FL
open PySem PySem.Spec PyProof.Rows L2
theorem e_takeW {s : Dr} {far : Int} (h1 : 0 < far) (h2 : far < 18446744073709551616) : m__law_take [.int far] [s.o] = .ok (.int (s.tk far)) [(s.nx far).o] := by
  have hb := s.hb
  unfold Dr.tk Dr.nx
  by_cases q : 0 < s.a
  · have w : (0 : Int) < s.a := by omega
    rw [if_pos q, if_pos q]
    simp [m__law_take, b__law_take, Dr.o, q, v_fMod h1, v_fDivW h1 h2]
    exact (Int.max_eq_left (Int.ediv_nonneg (Int.natCast_nonneg _) (by omega))).symm
  · have w : ¬ (0 : Int) < s.a := by omega
    rw [if_neg q, if_neg q]
    have e0 : ∀ x : Int, fMod x 2147483647 = some (.int (x % 2147483647)) := fun x => v_fMod (by decide)
    have e1 : ∀ x : Int, fMod x 2147483629 = some (.int (x % 2147483629)) := fun x => v_fMod (by decide)
    have e2 : ∀ x : Int, fMod x 2147483587 = some (.int (x % 2147483587)) := fun x => v_fMod (by decide)
    have e3 : ∀ x : Int, fDiv x 8 = some (.int (x / 8)) := fun x => v_fDiv (by decide) (by decide)
    have e4 : ∀ x : Int, fMul x 48271 = some (.int (x * 48271)) := fun x => v_fMulR (by decide) (by decide)
    have e5 : ∀ x : Int, fMul 39373 x = some (.int (39373 * x)) := fun x => v_fMulL (by decide) (by decide)
    have e6 : ∀ x : Int, fMul 16807 x = some (.int (16807 * x)) := fun x => v_fMulL (by decide) (by decide)
    have e7 : ∀ x y : Int, fMul (x % 2147483647) y = some (.int (x % 2147483647 * y)) := fun x y => v_fMulL (by omega) (by omega)
    have e8 : ∀ x y : Int, fMul (x % 2147483629) y = some (.int (x % 2147483629 * y)) := fun x y => v_fMulL (by omega) (by omega)
    simp [m__law_take, b__law_take, Dr.o, q, e0, e1, e2, e3, e4, e5, e6, e7, e8, v_fMod h1, Dr.x2, Dr.x1, Dr.b1]
    omega
theorem e_take {s : Dr} {far : Int} (h1 : 0 < far) (h2 : far < 1073741824) : m__law_take [.int far] [s.o] = .ok (.int (s.tk far)) [(s.nx far).o] := e_takeW h1 (by omega)
@[simp] theorem c_take {s : Dr} {far : Int} {r : Hs} (h1 : 0 < far) (h2 : far < 1073741824) : callF m__law_take [true, false] false [.loc 0, .val (.int far)] (s.o :: r) = .ok (.val (.int (s.tk far))) ((s.nx far).o :: r) :=
  callF_eq (ns := [0]) (vw := []) rfl rfl (.inl rfl) (e_take h1 h2) (.inl rfl)
def stOf (c : Int) : Dr := ⟨(c - 1000000000000000000).toNat, (c % 2147483647).toNat, by omega⟩
theorem e_cell {ns : List Int} {k : Nat} : m__law_cell_at [.list (ns.map .int), .int k] [] = .ok (.int (ns[k]?.getD 0)) [] := by
  by_cases q : k < ns.length
  · have w : (k : Int) < ns.length := by omega
    simp [m__law_cell_at, b__law_cell_at, q]
  · have w : ¬ (k : Int) < ns.length := by omega
    simp [m__law_cell_at, b__law_cell_at, q]
theorem e_state {ns : List Int} {k : Nat} : m__law_state [.list (ns.map .int), .int k] [] = .ok (.list [.int (stOf (ns[k]?.getD 0)).a, .int (stOf (ns[k]?.getD 0)).b]) [] := by
  have e0 : ∀ x : Int, fMod x 2147483647 = some (.int (x % 2147483647)) := fun x => v_fMod (by decide)
  have e1 : fPow 10 18 = some (.int 1000000000000000000) := by unfold fPow; rw [if_pos (by decide)]; rfl
  simp [m__law_state, b__law_state, e_cell, e0, e1, v_new1]
  rw [v_outR rfl rfl]
  simp [stOf]
  omega
theorem c_state {ns : List Int} {k : Nat} {h : Hs} : callN m__law_state [false, false] [.val (.list (ns.map .int)), .val (.int k)] h = .ok (.loc h.length) (h ++ [(stOf (ns[k]?.getD 0)).o]) := by
  rw [callN_eq (ns := []) (vw := []) rfl rfl e_state rfl]
  rfl
end FL
namespace FL
open PySem PySem.Spec PyProof.Rows L2
@[simp] theorem e_among {i a b : Int} : m_is_among [.int i, .int a, .int b] [] = .ok (.bool (decide (a ≤ i) && decide (i ≤ b))) [] := by
  simp [m_is_among, b_is_among]
theorem e_road {n : Nat} {r : Road} (h : r.Ok n) : m_is_road [r.d, .int n] [] = .ok (.bool true) [] := by
  obtain ⟨h1, h2, h3, h4, h5, h6⟩ := h
  have w1 : (r.one : Int) ≤ n - 1 := by omega
  have w2 : (r.other : Int) ≤ n - 1 := by omega
  have w3 : (1 : Int) ≤ r.cost := by omega
  have w4 : (r.cost : Int) ≤ 99 := by omega
  have w5 : (r.time : Int) ≤ 99 := by omega
  have w6 : ¬ (r.one : Int) = r.other := by omega
  simp [m_is_road, b_is_road, Road.d, cut_to2, compL, bools?, w1, w2, w3, w4, w5, w6]
theorem e_net {n : Nat} {rs : List Road} (h : NetOk n rs) : m_is_net [netD n rs] [] = .ok (.bool true) [] := by
  obtain ⟨h1, h2, h3, h4⟩ := h
  have w1 : (1 : Int) ≤ n := by omega
  have w2 : (n : Int) ≤ 10 := by omega
  have w3 : (rs.length : Int) ≤ 30 := by omega
  simp [m_is_net, b_is_net, netD, w1, w2, w3]
  rw [comp_map (dd := Road.d) (w := fun _ => .bool true) (fun z => by simp; rfl) (fun z => rfl) rs [] (fun z m => by simp [e_road (h4 z m)]) (by simp; omega)]
  simp [bools_map]
@[simp] theorem e_needNet {n : Nat} {rs : List Road} (h : NetOk n rs) : m_need_net [netD n rs] [] = .ok .none [] := by
  simp [m_need_net, b_need_net, e_net h]
end FL
namespace FL
open PySem PySem.Spec PyProof.Rows L2
@[simp] theorem e_place {n : Nat} {rs : List Road} {i : Int} : m_is_place [netD n rs, .int i] [] = .ok (.bool (decide (0 ≤ i) && decide (i ≤ n - 1))) [] := by
  simp [m_is_place, b_is_place, netD]
end FL
namespace FL
open PySem PySem.Spec PyProof.Rows L2
theorem mk_road {n : Nat} {a b c d : Int} (ha : 0 ≤ a ∧ a < n) (hb : 0 ≤ b ∧ b < n ∧ a ≠ b) (hc : 1 ≤ c ∧ c ≤ 99) (hd : 0 ≤ d ∧ d ≤ 99) : ∃ r : Road, r.Ok n ∧ PyData.tuple [.int a, .int b, .int c, .int d] = r.d := by
  refine ⟨⟨a.toNat, b.toNat, c.toNat, d.toNat⟩, ⟨?_, ?_, ?_, ?_, ?_, ?_⟩, ?_⟩
  · show a.toNat < n; omega
  · show b.toNat < n; omega
  · show a.toNat ≠ b.toNat; omega
  · show 1 ≤ c.toNat; omega
  · show c.toNat ≤ 99; omega
  · show d.toNat ≤ 99; omega
  · simp only [Road.d]
    rw [Int.toNat_of_nonneg ha.1, Int.toNat_of_nonneg hb.1, Int.toNat_of_nonneg (by omega), Int.toNat_of_nonneg hd.1]
theorem e_drawnA {n w : Nat} {s : Dr} {rs : List Road} {x1 x2 y6 y7 y8 : Option Sl} (h1 : 2 ≤ n) (h2 : n ≤ 10) (hw : 1 ≤ w ∧ w ≤ 99) (hrs : ∀ r ∈ rs, r.Ok n) (hl : rs.length < 100000) :
    ∃ (r : Road) (s' : Dr) (z7 z8 : PyData), r.Ok n ∧ l__law_net_1 [some (.loc 0), x1, x2, some (.val (.int n)), some (.loc 1), some (.val (.int w)), y6, y7, y8] [s.o, .lst (rs.map Road.d)]
      = .next [some (.loc 0), x1, x2, some (.val (.int n)), some (.loc 1), some (.val (.int w)), y6, some (.val z7), some (.val z8)] [s'.o, .lst ((rs ++ [r]).map Road.d)] := by
  have w1 : (0 : Int) < n := by omega
  have w2 : (n : Int) < 1073741824 := by omega
  have w3 : (0 : Int) < (n : Int) - 1 := by omega
  have w4 : (n : Int) - 1 < 1073741824 := by omega
  have k1 := c_take (s := s) (far := n) (r := [.lst (rs.map Road.d)]) w1 w2
  have a1 := tk_nn (s := s) w1
  have a2 := tk_lt (s := s) w1
  generalize s.tk n = a at *
  generalize s.nx n = s1 at *
  have k2 := c_take (s := s1) (far := (n : Int) - 1) (r := [.lst (rs.map Road.d)]) w3 w4
  have b1 := tk_nn (s := s1) w3
  have b2 := tk_lt (s := s1) w3
  generalize s1.tk (↑n - 1) = b0 at *
  generalize s1.nx (↑n - 1) = s2 at *
  have mw := mod_wrap (a := a) (y := 1 + b0) (n := n) a1 a2 (by omega) (by omega)
  rw [← Int.add_assoc] at mw
  generalize hb : (a + 1 + b0) % (n : Int) = b at *
  have hmod : fMod (a + 1 + b0) n = some (.int b) := by rw [v_fMod w1, hb]
  have k3 := c_take (s := s2) (far := 5) (r := [.lst (rs.map Road.d)]) (by decide) (by decide)
  have hne := v_neNilO (h := [(s2.nx 5).o, .lst (rs.map Road.d)]) (k := 1) (ds := rs.map Road.d) rfl (shp_roads h2 hrs)
  have key : ∃ (p q : Int), (0 ≤ p ∧ p < n) ∧ (0 ≤ q ∧ q < n ∧ p ≠ q) ∧ sIf (tAn (tV (cBin gEq (eCall m__law_take [true, false] false (aCons (eVar 0) (aCons (eK (.int 5)) aNil))) (eK (.int 0)))) (tV (cBin gNe (eVar 4) (eLst aNil)))) (sAsg (eSl (cBin gIx (eVar 4) (cUn gNeg (eK (.int 1)))) oNone (oSome (eK (.int 2)))) (.tp [(.nm 7), (.nm 8)])) sNil
      [some (.loc 0), x1, x2, some (.val (.int n)), some (.loc 1), some (.val (.int w)), y6, some (.val (.int a)), some (.val (.int b))] [s2.o, .lst (rs.map Road.d)] = .next [some (.loc 0), x1, x2, some (.val (.int n)), some (.loc 1), some (.val (.int w)), y6, some (.val (.int p)), some (.val (.int q))] [(s2.nx 5).o, .lst (rs.map Road.d)] := by
    by_cases q1 : s2.tk 5 = 0
    · rcases List.eq_nil_or_concat rs with rfl | ⟨rs', r0, rfl⟩
      · refine ⟨a, b, ⟨a1, a2⟩, mw, ?_⟩
        simp at hne
        simp [q1, v_line, hne]
      · rw [List.concat_eq_append] at *
        have ok := hrs r0 (by simp)
        refine ⟨r0.one, r0.other, ⟨by omega, by have := ok.one; omega⟩, ⟨by omega, by have := ok.other; omega, by have := ok.ne; omega⟩, ?_⟩
        have he : (rs'.map Road.d ++ [r0.d]).isEmpty = false := by cases rs' <;> rfl
        rw [List.map_append, List.map_cons, List.map_nil, he] at hne
        have c2 : cutD [PyData.int r0.one, .int r0.other, .int r0.cost, .int r0.time] none (some 2) = [.int r0.one, .int r0.other] := cut_to (k := 2)
        simp [q1, v_line, hne, v_last]
        simp [Road.d, c2]
    · exact ⟨a, b, ⟨a1, a2⟩, mw, by simp [q1]⟩
  obtain ⟨p, q, hp, hq, ek⟩ := key
  generalize s2.nx 5 = s3 at *
  have w5 : (0 : Int) < w := by omega
  have k4 := c_take (s := s3) (far := w) (r := [.lst (rs.map Road.d)]) w5 (by omega)
  have c1 := tk_nn (s := s3) w5
  have c2 := tk_lt (s := s3) w5
  generalize s3.tk w = c at *
  generalize s3.nx w = s4 at *
  obtain ⟨far, hfar⟩ : ∃ far : Int, far = if s4.tk 2 = 0 then 3 else 100 := ⟨_, rfl⟩
  have f1 : 0 < far ∧ far ≤ 100 := by rw [hfar]; split <;> decide
  have k5 := c_take (s := s4.nx 2) (far := far) (r := [.lst (rs.map Road.d)]) f1.1 (by omega)
  have t1 := tk_nn (s := s4.nx 2) f1.1
  have t2 := tk_lt (s := s4.nx 2) f1.1
  have pk : atI [PyData.int 3, .int 100] (s4.tk 2) = some (.int far) := by rw [pick2t, hfar]
  generalize (s4.nx 2).tk far = t at *
  generalize (s4.nx 2).nx far = s6 at *
  obtain ⟨r, hr, er⟩ := mk_road hp hq (c := 1 + c) (d := t) ⟨by omega, by omega⟩ ⟨t1, by omega⟩
  refine ⟨r, s6, .int p, .int q, hr, ?_⟩
  unfold l__law_net_1
  rw [sSeq_eq (e1 := [some (.loc 0), x1, x2, some (.val (.int n)), some (.loc 1), some (.val (.int w)), y6, some (.val (.int a)), y8]) (h1 := [s1.o, .lst (rs.map Road.d)]) (by simp [k1])]
  rw [sSeq_eq (e1 := [some (.loc 0), x1, x2, some (.val (.int n)), some (.loc 1), some (.val (.int w)), y6, some (.val (.int a)), some (.val (.int b))]) (h1 := [s2.o, .lst (rs.map Road.d)]) (by simp [k2, hmod])]
  rw [sSeq_eq ek]
  simp [k4, v_line]
  rw [← hfar]
  simp [k5, line_s]
  rw [if_pos (by omega), er]
  simp
theorem e_drawnsA {n w : Nat} {x1 x2 : PyData} (h1 : 2 ≤ n) (h2 : n ≤ 10) (hw : 1 ≤ w ∧ w ≤ 99) {ds : List PyData} {s : Dr} {y6 y7 y8 : Option Sl} (hl : ds.length ≤ 1000) {src : En → Hs → Rz (List PyData)} {s0 : Dr}
    (hs : src [some (.loc 0), some (.val x1), some (.val x2), some (.val (.int n)), some (.loc 1), some (.val (.int w)), y6, y7, y8] [s0.o, .lst []] = .ok ds [s.o, .lst []]) :
    Nx (sFor src (.nm 6) l__law_net_1 [some (.loc 0), some (.val x1), some (.val x2), some (.val (.int n)), some (.loc 1), some (.val (.int w)), y6, y7, y8] [s0.o, .lst []]) fun e h => ∃ (rs : List Road) (s' : Dr) (y6 y7 y8 : Option Sl), (∀ r ∈ rs, r.Ok n) ∧ rs.length ≤ ds.length ∧ e = [some (.loc 0), some (.val x1), some (.val x2), some (.val (.int n)), some (.loc 1), some (.val (.int w)), y6, y7, y8] ∧ h = [s'.o, .lst (rs.map Road.d)] := by
  refine (Nx.forR (ds := ds) (h1 := [s.o, .lst []]) (I := fun rest e h => ∃ (rs : List Road) (s' : Dr) (y6 y7 y8 : Option Sl), (∀ r ∈ rs, r.Ok n) ∧ rs.length + rest.length ≤ ds.length ∧ e = [some (.loc 0), some (.val x1), some (.val x2), some (.val (.int n)), some (.loc 1), some (.val (.int w)), y6, y7, y8] ∧ h = [s'.o, .lst (rs.map Road.d)]) hs ⟨[], s, y6, y7, y8, by simp, by simp, rfl, rfl⟩ ?_).mono ?_
  · rintro d rest _ _ ⟨rs, s', y6, y7, y8, hrs, hlen, rfl, rfl⟩
    rw [List.length_cons] at hlen
    refine ⟨_, by simp; rfl, ?_⟩
    obtain ⟨r, s2, z7, z8, hr, e⟩ := e_drawnA (s := s') (x1 := some (.val x1)) (x2 := some (.val x2)) (y6 := some (.val d)) (y7 := y7) (y8 := y8) h1 h2 hw hrs (by omega)
    refine Nx.of e ⟨rs ++ [r], s2, _, _, _, fun x m => ?_, by simp; omega, rfl, rfl⟩
    rcases List.mem_append.mp m with m | m
    · exact hrs x m
    · rw [List.mem_singleton.mp m]; exact hr
  · rintro _ _ ⟨rs, s', y6, y7, y8, hrs, hlen, rfl, rfl⟩
    exact ⟨rs, s', _, _, _, hrs, by simpa using hlen, rfl, rfl⟩
theorem c_netA {s : Dr} {a b : Nat} {r : Hs} (ha : 1 ≤ a ∧ a ≤ 10) (hb : b ≤ 30) : ∃ (n : Nat) (rs : List Road) (s' : Dr), NetOk n rs ∧ n ≤ a ∧ rs.length ≤ b ∧ callF m__law_net [true, false, false] false [.loc 0, .val (.int a), .val (.int b)] (s.o :: r) = .ok (.val (netD n rs)) (s'.o :: r) := by
  have w1 : (0 : Int) < a := by omega
  have k1 := c_take (s := s) (far := a) (r := []) w1 (by omega)
  have a1 := tk_nn (s := s) w1
  have a2 := tk_lt (s := s) w1
  obtain ⟨m, hm⟩ : ∃ m : Nat, s.tk a = m := ⟨(s.tk a).toNat, by omega⟩
  have hn1 : 1 + m ≤ 10 := by omega
  generalize hs1 : s.nx a = s1 at *
  have ew : ∃ w : Nat, (1 ≤ w ∧ w ≤ 99) ∧ atI [PyData.int 2, .int 4, .int 99] (s1.tk 3) = some (.int w) := by
    obtain ⟨d, hd, ed⟩ := pickL [.int 2, .int 4, .int 99] s1 (k := 3) rfl (by decide)
    simp only [List.mem_cons, List.not_mem_nil, or_false] at hd
    rcases hd with rfl | rfl | rfl
    · exact ⟨2, by decide, ed⟩
    · exact ⟨4, by decide, ed⟩
    · exact ⟨99, by decide, ed⟩
  obtain ⟨w, hw, ew⟩ := ew
  suffices H : ∃ (rs : List Road) (s' : Dr), (∀ r ∈ rs, r.Ok (1 + m)) ∧ rs.length ≤ b ∧ m__law_net [.int a, .int b] [s.o] = .ok (netD (1 + m) rs) [s'.o] by
    obtain ⟨rs, s', h1, h2, e⟩ := H
    exact ⟨1 + m, rs, s', ⟨by omega, by omega, by omega, h1⟩, by omega, h2, callF_eq (ns := [0]) (os := [s.o]) (os' := [s'.o]) (vw := []) rfl rfl (Or.inl rfl) e (Or.inl rfl)⟩
  unfold m__law_net
  have key := run_ex (fr := false) (io := [true, false, false]) (nl := 6) (p := b__law_net) (ds := [.int a, .int b]) (os := [s.o]) (P := fun d h => ∃ (rs : List Road) (s' : Dr), (∀ r ∈ rs, r.Ok (1 + m)) ∧ rs.length ≤ b ∧ d = netD (1 + m) rs ∧ h = [s'.o]) ?_
  · obtain ⟨d, h', e, rs, s', h1, h2, rfl, rfl⟩ := key
    exact ⟨rs, s', h1, h2, e⟩
  have e0 : mkEnv [true, false, false] [.int a, .int b] 0 ++ List.replicate 6 none = [some (.loc 0), some (.val (.int a)), some (.val (.int b)), none, none, none, none, none, none] := rfl
  rw [e0]
  unfold b__law_net
  apply Out.seqEq (e1 := [some (.loc 0), some (.val (.int a)), some (.val (.int b)), some (.val (.int (1 + m : Nat))), some (.loc 1), none, none, none, none]) (h1 := [s1.o, .lst []])
  · simp [k1, hm, v_new1]
  apply Out.seqEq (e1 := [some (.loc 0), some (.val (.int a)), some (.val (.int b)), some (.val (.int (1 + m : Nat))), some (.loc 1), some (.val (.int w)), none, none, none]) (h1 := [(s1.nx 3).o, .lst []])
  · simp [v_line, c_take, ew]
  generalize s1.nx 3 = s2 at *
  refine Out.seq (A := fun e h => ∃ (rs : List Road) (s' : Dr) (y6 y7 y8 : Option Sl), (∀ r ∈ rs, r.Ok (1 + m)) ∧ rs.length ≤ b ∧ e = [some (.loc 0), some (.val (.int a)), some (.val (.int b)), some (.val (.int (1 + m : Nat))), some (.loc 1), some (.val (.int w)), y6, y7, y8] ∧ h = [s'.o, .lst (rs.map Road.d)]) ?_ ?_
  · by_cases hm1 : 1 ≤ m
    · have q1 : (1 : Int) < ((1 + m : Nat) : Int) := by omega
      have k2 := c_take (s := s2) (far := (b : Int) + 1) (r := [.lst []]) (by omega) (by omega)
      have b1 := tk_nn (s := s2) (far := (b : Int) + 1) (by omega)
      have b2 := tk_lt (s := s2) (far := (b : Int) + 1) (by omega)
      obtain ⟨c, hc⟩ : ∃ c : Nat, s2.tk ((b : Int) + 1) = c := ⟨(s2.tk ((b : Int) + 1)).toNat, by omega⟩
      have ec : ∃ c : Nat, c ≤ b ∧ (if (s2.nx ((b : Int) + 1)).tk 2 = 0 then (b : Int) else s2.tk ((b : Int) + 1)) = c := by
        split
        · exact ⟨b, by omega, rfl⟩
        · exact ⟨c, by omega, hc⟩
      obtain ⟨c', hc', ec⟩ := ec
      refine (Out.of_nx (e_drawnsA (n := 1 + m) (w := w) (ds := upTo 0 c') (s := (s2.nx ((b : Int) + 1)).nx 2) (s0 := s2) (by omega) hn1 hw (by simp [upTo]; omega) ?_)).mono ?_ (fun _ _ z => z)
      · simp at q1
        simp [q1, v_line, k2]
        rw [ec, v_rng1 (by omega) (by omega), Int.toNat_natCast]
      · rintro _ _ ⟨rs, s', y6, y7, y8, h1, h2, rfl, rfl⟩
        exact ⟨rs, s', _, _, _, h1, by simp [upTo] at h2; omega, rfl, rfl⟩
    · have q1 : ¬ (1 : Int) < ((1 + m : Nat) : Int) := by omega
      refine Out.next (e := [some (.loc 0), some (.val (.int a)), some (.val (.int b)), some (.val (.int (1 + m : Nat))), some (.loc 1), some (.val (.int w)), none, none, none]) (h := [s2.o, .lst []]) ?_ ⟨[], s2, _, _, _, by simp, by simp, rfl, rfl⟩
      have hm0 : m = 0 := by omega
      subst hm0
      simp
      rw [v_rng1 (by omega) (by omega)]
      simp [upTo, loopF]
  · rintro _ _ ⟨rs, s', y6, y7, y8, h1, h2, rfl, rfl⟩
    refine Out.ret (s := .val (netD (1 + m) rs)) (h := [s'.o, .lst (rs.map Road.d)]) ?_ ⟨_, _, v_outV, rs, s', h1, h2, rfl, by simp⟩
    simp [line_s, netD]
end FL
namespace FL
open PySem PySem.Spec PyProof.Rows L2
def oddA : List PyData := [.none, .bool true, .bool false, .int 0, .int 1, .int (-1), .int 99, .int 100, .int 100000000000000000000000000000, .str "", .str "0", .str "roads", .tuple [], .list [], .dict [], .tuple [.int 0], .list [.int 0], .tuple [.int 0, .int 1], .tuple [.bool true],
  .tuple [.tuple []], .dict [(.int 0, .int 1)], .tuple [.int 1, .tuple []], .list [.int 1, .tuple []], .tuple [.none, .int 0], .tuple [.str "bound"], .tuple [.tuple [.int 0, .int 1]]]
theorem odd_kd : ∀ d ∈ oddA, Kd d ∧ ∀ ds, d = .tuple ds → ds.length ≤ 100 := by
  have : oddA.all (fun d => kdB d && (match d with
    | .tuple ds => decide (ds.length ≤ 100)
    | _ => true)) = true := by decide +kernel
  intro d m
  have h := List.all_eq_true.mp this d m
  rw [Bool.and_eq_true] at h
  refine ⟨kdB_ok h.1, fun ds e => ?_⟩
  subst e
  simpa using h.2
theorem p29 : fPow 10 29 = some (.int 100000000000000000000000000000) := v_pow10 (k := 29) (h := []) (by decide)
theorem c_oddA {s : Dr} {r : Hs} : ∃ d s', d ∈ oddA ∧ callF m__law_odd [true] false [.loc 0] (s.o :: r) = .ok (.val d) ((s' : Dr).o :: r) := by
  obtain ⟨d, hd, ed⟩ := pickL oddA s (k := 26) rfl (by decide)
  refine ⟨d, s.nx 26, hd, callF_eq (ns := [0]) (os := [s.o]) (os' := [(s.nx 26).o]) (vw := []) rfl rfl (Or.inl rfl) ?_ (Or.inl rfl)⟩
  unfold oddA at ed
  simp [m__law_odd, b__law_odd, v_line, p29]
  rw [v_addL (by decide)]
  simp [ed]
def sodL : List PyData := [.int (-1), .int 0, .int 1, .int 9, .int 10, .int 99, .int 100, .bool true, .bool false, .none, .str "1", .tuple [], .int 100000000000000000000000000000, .int 5]
theorem cut_from' {ds : List PyData} {k : Nat} : cutD ds (some ((k : Int) + 1)) none = ds.drop (k + 1) := cut_from (k := k + 1)
end FL
namespace FL
open PySem PySem.Spec PyProof.Rows L2
def bodySp (rec : Sv) : Sv := (sSeq (sPar 3 4 (aCons (eCall m__law_take [true, false] false (aCons (eVar 0) (aCons (cBin gAdd (cCB gLen (aCons (eVar 1) aNil)) (eK (.int 1))) aNil))) (aCons (eCall m__law_take [true, false] false (aCons (eVar 0) (aCons (eK (.int 7)) aNil))) aNil)))
    (sSeq (sSet 5 (cBin gIx (eLst (aCons (cUn gNeg (eK (.int 1))) (aCons (eK (.int 0)) (aCons (eK (.int 1)) (aCons (eK (.int 9)) (aCons (eK (.int 10)) (aCons (eK (.int 99)) (aCons (eK (.int 100)) (aCons (eK (.bool true)) (aCons (eK (.bool false)) (aCons (eK .none) (aCons (eK (.str "1")) (aCons (eTup aNil) (aCons (cBin (gI fPow) (eK (.int 10)) (eK (.int 29))) (aCons (eK (.int 5)) aNil))))))))))))))) (eCall m__law_take [true, false] false (aCons (eVar 0) (aCons (eK (.int 14)) aNil)))))
    (sSeq (sIf (tAn (tV (cBin (gI fGt) (eVar 2) (eK (.int 0)))) (tAn (tV (cBin (gI fLt) (eVar 3) (cCB gLen (aCons (eVar 1) aNil)))) (tAn (tV (cUn (gIsa "tuple") (cBin gIx (eVar 1) (eVar 3)))) (tV (cBin (gI fGt) (eCall m__law_take [true, false] false (aCons (eVar 0) (aCons (eK (.int 4)) aNil))) (eK (.int 0))))))) rec sNil)
    (sSeq (sIf (tV (cBin gEq (eVar 4) (eK (.int 0)))) (sRet (cBin gIx (eLst (aCons (cCB gList (aCons (eVar 1) aNil)) (aCons (cUn gRev (eVar 1)) (aCons (cBin gAdd (eVar 1) (eSl (eVar 1) (oSome (cUn gNeg (eK (.int 1)))) oNone)) (aCons (eSl (eVar 1) oNone (oSome (cUn gNeg (eK (.int 1))))) aNil))))) (eCall m__law_take [true, false] false (aCons (eVar 0) (aCons (eK (.int 4)) aNil))))) sNil)
    (sSeq (sIf (tV (cBin gEq (eVar 4) (eK (.int 1)))) (sRet (cBin gAdd (cBin gAdd (eSl (eVar 1) oNone (oSome (eVar 3))) (eTup (aCons (eVar 5) aNil))) (eSl (eVar 1) (oSome (eVar 3)) oNone))) sNil)
    (sSeq (sIf (tAn (tV (cBin (gI fLt) (eVar 4) (eK (.int 4)))) (tAn (tV (cBin (gI fLt) (eVar 3) (cCB gLen (aCons (eVar 1) aNil)))) (tV (cUn (gIsa "int") (cBin gIx (eVar 1) (eVar 3)))))) (sRet (cBin gAdd (cBin gAdd (eSl (eVar 1) oNone (oSome (eVar 3))) (eTup (aCons (cBin gAdd (cBin gIx (eVar 1) (eVar 3)) (cBin gIx (eLst (aCons (eK (.int 1)) (aCons (cUn gNeg (eK (.int 1))) aNil))) (eCall m__law_take [true, false] false (aCons (eVar 0) (aCons (eK (.int 2)) aNil))))) aNil))) (eSl (eVar 1) (oSome (cBin gAdd (eVar 3) (eK (.int 1)))) oNone))) sNil)
    (sRet (cBin gAdd (cBin gAdd (eSl (eVar 1) oNone (oSome (eVar 3))) (eTup (aCons (eVar 5) aNil))) (eSl (eVar 1) (oSome (cBin gAdd (eVar 3) (eK (.int 1)))) oNone)))))))))
def recS (m : Fm) : Sv := (sRet (cBin gAdd (cBin gAdd (eSl (eVar 1) oNone (oSome (eVar 3))) (eTup (aCons (eCall m [true, false, false] false (aCons (eVar 0) (aCons (cBin gIx (eVar 1) (eVar 3)) (aCons (cBin (gI fSub) (eVar 2) (eK (.int 1))) aNil)))) aNil))) (eSl (eVar 1) (oSome (cBin gAdd (eVar 3) (eK (.int 1)))) oNone)))
theorem spoilt_r0 : b__law_spoilt_r0 = bodySp sNever := rfl
structure Cl (A B : PyData → Prop) : Prop where
  sub : ∀ d, A d → B d
  sod : ∀ d ∈ sodL, B d
  inc : ∀ i, A (.int i) → B (.int (i + 1)) ∧ B (.int (i + -1))
  nob : ∀ b, ¬ A (.bool b)
inductive SpG (B : PyData → Prop) (W : List PyData) : PyData → Prop
  | tup (V : List PyData) (h : ∀ d ∈ V, B d) (hl : V.length ≤ W.length + 1) : SpG B W (.tuple V)
  | lst : SpG B W (.list W)
theorem spG_body {A B : PyData → Prop} {rec : Sv} {W : List PyData} {deep : Int} {s : Dr} (cl : Cl A B) (hA : ∀ d ∈ W, A d) (hl : W.length ≤ 50)
    (hrec : 0 < deep → ∀ (a : Nat) (V : List PyData) (s3 : Dr) (w : Int) (od : PyData), W[a]? = some (.tuple V) → ∃ x s', B x ∧ rec [some (.loc 0), some (.val (.tuple W)), some (.val (.int deep)), some (.val (.int (a : Nat))), some (.val (.int w)), some (.val od)] [s3.o] = .ret (.val (.tuple (W.take a ++ [x] ++ W.drop (a + 1)))) [(s' : Dr).o]) :
    ∃ d s', SpG B W d ∧ runFn false [true, false, false] 3 (bodySp rec) [.tuple W, .int deep] [s.o] = .ok d [(s' : Dr).o] := by
  have hW : ∀ d ∈ W, B d := fun d m => cl.sub d (hA d m)
  have t1 := tk_nn (s := s) (far := W.length + 1) (by omega)
  have t2 := tk_lt (s := s) (far := W.length + 1) (by omega)
  obtain ⟨a, ha⟩ : ∃ a : Nat, s.tk (W.length + 1) = a := ⟨(s.tk (W.length + 1)).toNat, by omega⟩
  have k1 := c_take (s := s) (far := W.length + 1) (r := []) (by omega) (by omega)
  rw [ha] at k1
  generalize s.nx (W.length + 1) = s1 at *
  have u1 := tk_nn (s := s1) (far := 7) (by decide)
  have u2 := tk_lt (s := s1) (far := 7) (by decide)
  have k2 := c_take (s := s1) (far := 7) (r := []) (by decide) (by decide)
  generalize hw : s1.tk 7 = w at *
  generalize s1.nx 7 = s2 at *
  obtain ⟨od, hod, eod⟩ := pickL sodL s2 (k := 14) rfl (by decide)
  have rod := cl.sod od hod
  generalize hs3 : s2.nx 14 = s3 at *
  have tl : (W.take a).length ≤ W.length := by rw [List.length_take]; omega
  have tl2 : (W.take a).length ≤ a := by rw [List.length_take]; omega
  have ra : ∀ d ∈ W.take a, B d := fun d m => hW d (List.mem_of_mem_take m)
  have rb : ∀ k, ∀ d ∈ W.drop k, B d := fun k d m => hW d (List.mem_of_mem_drop m)
  have c1 : cutD W none (some (a : Int)) = W.take a := cut_to
  have c2 : cutD W (some (a : Int)) none = W.drop a := cut_from
  have c3 : cutD W (some ((a : Int) + 1)) none = W.drop (a + 1) := cut_from'
  have ad : ∀ (h : Hs) (x y : List PyData), x.length + y.length ≤ 1000 → gAdd (.val (.tuple x)) (.val (.tuple y)) h = some (.tuple (x ++ y)) := fun h x y hl => v_addT (by omega)
  have key := run_ex (fr := false) (io := [true, false, false]) (nl := 3) (p := bodySp rec) (ds := [.tuple W, .int deep]) (os := [s.o]) (P := fun d h => ∃ s' : Dr, SpG B W d ∧ h = [s'.o]) ?_
  · obtain ⟨d, h', e, s', h1, rfl⟩ := key
    exact ⟨d, s', h1, e⟩
  have e0 : mkEnv [true, false, false] [.tuple W, .int deep] 0 ++ List.replicate 3 none = [some (.loc 0), some (.val (.tuple W)), some (.val (.int deep)), none, none, none] := rfl
  rw [e0]
  unfold bodySp
  apply Out.seqEq (e1 := [some (.loc 0), some (.val (.tuple W)), some (.val (.int deep)), some (.val (.int (a : Nat))), some (.val (.int w)), none]) (h1 := [s2.o])
  · simp [k1, k2]
  apply Out.seqEq (e1 := [some (.loc 0), some (.val (.tuple W)), some (.val (.int deep)), some (.val (.int (a : Nat))), some (.val (.int w)), some (.val od)]) (h1 := [s3.o])
  · unfold sodL at eod
    simp [v_line, p29, eod, hs3]
  have dl1 : (W.drop a).length ≤ W.length - a := by rw [List.length_drop]; omega
  have dl2 : (W.drop (a + 1)).length ≤ W.length - (a + 1) := by rw [List.length_drop]; omega
  have al : a ≤ W.length := by omega
  have sp : ∀ (x : PyData) (k : Nat), B x → (W.drop k).length ≤ W.length - a → SpG B W (.tuple (W.take a ++ [x] ++ W.drop k)) := fun x k rx hk => .tup _ (fun d m => by
    rcases List.mem_append.mp m with m | m
    · rcases List.mem_append.mp m with m | m
      · exact ra d m
      · rw [List.mem_singleton.mp m]; exact rx
    · exact rb _ d m) (by simp only [List.length_append, List.length_singleton]; omega)
  refine Out.seq (A := fun e h => e = [some (.loc 0), some (.val (.tuple W)), some (.val (.int deep)), some (.val (.int (a : Nat))), some (.val (.int w)), some (.val od)] ∧ ∃ s3 : Dr, h = [s3.o]) ?_ ?_
  · by_cases p1 : 0 < deep
    · by_cases p2 : a < W.length
      · have p2' : (a : Int) < W.length := by omega
        have q3 : W[a]? = some W[a] := List.getElem?_eq_getElem p2
        generalize W[a] = x at *
        have kt := c_take (s := s3) (far := 4) (r := []) (by decide) (by decide)
        cases x with
        | tuple V =>
          by_cases p4 : 0 < s3.tk 4
          · obtain ⟨x, s', bx, er⟩ := hrec p1 a V (s3.nx 4) w od q3
            refine Out.if_t (h1 := [(s3.nx 4).o]) (by simp [p1, p2', q3, kt, p4]) ?_
            exact Out.ret er ⟨_, _, v_outV, s', sp x (a + 1) bx (by omega), by simp⟩
          · exact Out.next (e := [some (.loc 0), some (.val (.tuple W)), some (.val (.int deep)), some (.val (.int (a : Nat))), some (.val (.int w)), some (.val od)]) (h := [(s3.nx 4).o]) (by simp [p1, p2', q3, kt, p4]) ⟨rfl, _, rfl⟩
        | int _ => exact Out.next (e := [some (.loc 0), some (.val (.tuple W)), some (.val (.int deep)), some (.val (.int (a : Nat))), some (.val (.int w)), some (.val od)]) (h := [s3.o]) (by simp [p1, p2', q3]) ⟨rfl, _, rfl⟩
        | bool _ => exact Out.next (e := [some (.loc 0), some (.val (.tuple W)), some (.val (.int deep)), some (.val (.int (a : Nat))), some (.val (.int w)), some (.val od)]) (h := [s3.o]) (by simp [p1, p2', q3]) ⟨rfl, _, rfl⟩
        | none => exact Out.next (e := [some (.loc 0), some (.val (.tuple W)), some (.val (.int deep)), some (.val (.int (a : Nat))), some (.val (.int w)), some (.val od)]) (h := [s3.o]) (by simp [p1, p2', q3]) ⟨rfl, _, rfl⟩
        | str _ => exact Out.next (e := [some (.loc 0), some (.val (.tuple W)), some (.val (.int deep)), some (.val (.int (a : Nat))), some (.val (.int w)), some (.val od)]) (h := [s3.o]) (by simp [p1, p2', q3]) ⟨rfl, _, rfl⟩
        | list _ => exact Out.next (e := [some (.loc 0), some (.val (.tuple W)), some (.val (.int deep)), some (.val (.int (a : Nat))), some (.val (.int w)), some (.val od)]) (h := [s3.o]) (by simp [p1, p2', q3]) ⟨rfl, _, rfl⟩
        | dict _ => exact Out.next (e := [some (.loc 0), some (.val (.tuple W)), some (.val (.int deep)), some (.val (.int (a : Nat))), some (.val (.int w)), some (.val od)]) (h := [s3.o]) (by simp [p1, p2', q3]) ⟨rfl, _, rfl⟩
      · have p2' : ¬ (a : Int) < W.length := by omega
        exact Out.next (e := [some (.loc 0), some (.val (.tuple W)), some (.val (.int deep)), some (.val (.int (a : Nat))), some (.val (.int w)), some (.val od)]) (h := [s3.o]) (by simp [p1, p2']) ⟨rfl, _, rfl⟩
    · exact Out.next (e := [some (.loc 0), some (.val (.tuple W)), some (.val (.int deep)), some (.val (.int (a : Nat))), some (.val (.int w)), some (.val od)]) (h := [s3.o]) (by simp [p1]) ⟨rfl, _, rfl⟩
  clear hs3 eod
  rintro _ _ ⟨rfl, s3, rfl⟩
  by_cases w0 : w = 0
  · subst w0
    have cn : cutD W none (some (-1)) = W.take (W.length - 1) := cut_neg
    have clst : cutD W (some (-1)) none = W.drop (W.length - 1) := cut_last
    have dl : (W.drop (W.length - 1)).length ≤ 1 := by rw [List.length_drop]; omega
    have a1 := fun h => ad h W (W.drop (W.length - 1)) (by omega)
    obtain ⟨L, hL⟩ : ∃ L : List PyData, L = [.list W, .tuple W.reverse, .tuple (W ++ W.drop (W.length - 1)), .tuple (W.take (W.length - 1))] := ⟨_, rfl⟩
    obtain ⟨d, hd, ed⟩ := pickL L s3 (k := 4) (by rw [hL]; rfl) (by decide)
    have hsp : SpG B W d := by
      rw [hL] at hd
      simp only [List.mem_cons, List.not_mem_nil, or_false] at hd
      rcases hd with rfl | rfl | rfl | rfl
      · exact .lst
      · exact .tup _ (fun d m => hW d (List.mem_reverse.mp m)) (by rw [List.length_reverse]; omega)
      · exact .tup _ (fun d m => (List.mem_append.mp m).elim (hW d) (rb _ d)) (by rw [List.length_append]; omega)
      · exact .tup _ (fun d m => hW d (List.mem_of_mem_take m)) (by rw [List.length_take]; omega)
    refine Out.seq (A := fun _ _ => False) ?_ (fun _ _ z => z.elim)
    refine Out.ret (s := .val d) (h := [(s3.nx 4).o]) ?_ ⟨_, _, v_outV, s3.nx 4, hsp, by simp⟩
    rw [hL] at ed
    simp [line_s, cn, clst, a1, ed]
  apply Out.seqEq (e1 := [some (.loc 0), some (.val (.tuple W)), some (.val (.int deep)), some (.val (.int (a : Nat))), some (.val (.int w)), some (.val od)]) (h1 := [s3.o])
  · simp [w0]
  have a1 := fun h => ad h (W.take a) [od] (by simp only [List.length_singleton]; omega)
  have a2 := fun h => ad h (W.take a ++ [od]) (W.drop a) (by simp only [List.length_append, List.length_singleton]; omega)
  have a3 := fun h => ad h (W.take a ++ [od]) (W.drop (a + 1)) (by simp only [List.length_append, List.length_singleton]; omega)
  by_cases w1 : w = 1
  · subst w1
    refine Out.seq (A := fun _ _ => False) ?_ (fun _ _ z => z.elim)
    refine Out.ret (s := .val (.tuple (W.take a ++ [od] ++ W.drop a))) (h := [s3.o]) ?_ ⟨_, _, v_outV, s3, sp od a rod dl1, by simp⟩
    simp [line_s, c1, c2, a1, a2]
  apply Out.seqEq (e1 := [some (.loc 0), some (.val (.tuple W)), some (.val (.int deep)), some (.val (.int (a : Nat))), some (.val (.int w)), some (.val od)]) (h1 := [s3.o])
  · simp [w1]
  by_cases q : w < 4 ∧ a < W.length ∧ ∃ i : Int, W[a]? = some (.int i)
  · obtain ⟨q1, q2, i, q3⟩ := q
    have q2' : (a : Int) < W.length := by omega
    have hi' := cl.inc i (hA (.int i) (List.mem_of_getElem? q3))
    obtain ⟨e, he⟩ : ∃ e : Int, e = if s3.tk 2 = 0 then 1 else -1 := ⟨_, rfl⟩
    have he' : B (.int (i + e)) := by
      rw [he]
      split
      · exact hi'.1
      · exact hi'.2
    have a4 := fun h => ad h (W.take a) [.int (i + e)] (by simp only [List.length_singleton]; omega)
    have a5 := fun h => ad h (W.take a ++ [.int (i + e)]) (W.drop (a + 1)) (by simp only [List.length_append, List.length_singleton]; omega)
    refine Out.seq (A := fun _ _ => False) ?_ (fun _ _ z => z.elim)
    refine Out.ret (s := .val (.tuple (W.take a ++ [.int (i + e)] ++ W.drop (a + 1)))) (h := [(s3.nx 2).o]) ?_ ⟨_, _, v_outV, s3.nx 2, sp _ (a + 1) he' (by omega), by simp⟩
    simp [q1, q2', q3, line_s, c1, c3]
    rw [← he]
    simp [line_s, a4, a5]
  · refine Out.seqEq (e1 := [some (.loc 0), some (.val (.tuple W)), some (.val (.int deep)), some (.val (.int (a : Nat))), some (.val (.int w)), some (.val od)]) (h1 := [s3.o]) ?_ ?_
    · by_cases q1 : w < 4
      · by_cases q2 : a < W.length
        · have q2' : (a : Int) < W.length := by omega
          have q3 : W[a]? = some W[a] := List.getElem?_eq_getElem q2
          have hmem : W[a] ∈ W := List.getElem_mem q2
          generalize W[a] = x at *
          cases x with
          | int i => exact absurd ⟨q1, q2, i, q3⟩ q
          | bool b => exact absurd (hA _ hmem) (cl.nob b)
          | none => simp [q1, q2', q3]
          | str _ => simp [q1, q2', q3]
          | list _ => simp [q1, q2', q3]
          | tuple _ => simp [q1, q2', q3]
          | dict _ => simp [q1, q2', q3]
        · have q2' : ¬ (a : Int) < W.length := by omega
          simp [q1, q2']
      · simp [q1]
    · refine Out.ret (s := .val (.tuple (W.take a ++ [od] ++ W.drop (a + 1)))) (h := [s3.o]) ?_ ⟨_, _, v_outV, s3, sp od (a + 1) rod (by omega), by simp⟩
      simp [line_s, c1, c3, a1, a3]
theorem rec_of {B : PyData → Prop} {m : Fm} {W : List PyData} {deep : Int} (hl : W.length ≤ 50) (hm : ∀ (V : List PyData) (s : Dr), .tuple V ∈ W → ∃ x s', B x ∧ m [.tuple V, .int (deep - 1)] [s.o] = .ok x [(s' : Dr).o]) :
    ∀ (a : Nat) (V : List PyData) (s3 : Dr) (w : Int) (od : PyData), W[a]? = some (.tuple V) → ∃ x s', B x ∧ recS m [some (.loc 0), some (.val (.tuple W)), some (.val (.int deep)), some (.val (.int (a : Nat))), some (.val (.int w)), some (.val od)] [s3.o] = .ret (.val (.tuple (W.take a ++ [x] ++ W.drop (a + 1)))) [(s' : Dr).o] := fun a V s3 w od ea => by
  obtain ⟨x, s', bx, e⟩ := hm V s3 (List.mem_of_getElem? ea)
  have ec := callF_eq (m := m) (io := [true, false, false]) (fr := false) (ss := [.loc 0, .val (.tuple V), .val (.int (deep - 1))]) (h := [s3.o]) (ns := [0]) (os := [s3.o]) (os' := [s'.o]) (vw := []) rfl rfl (Or.inl rfl) e (Or.inl rfl)
  have ec : callF m [true, false, false] false [.loc 0, .val (.tuple V), .val (.int (deep - 1))] [s3.o] = .ok (.val x) [s'.o] := ec
  have c1 : cutD W none (some (a : Int)) = W.take a := cut_to
  have c3 : cutD W (some ((a : Int) + 1)) none = W.drop (a + 1) := cut_from'
  have tl : (W.take a).length ≤ W.length := by rw [List.length_take]; omega
  have dl : (W.drop (a + 1)).length ≤ W.length := by rw [List.length_drop]; omega
  have a1 : ∀ h, gAdd (.val (.tuple (W.take a))) (.val (.tuple [x])) h = some (.tuple (W.take a ++ [x])) := fun h => v_addT (by simp only [List.length_singleton]; omega)
  have a2 : ∀ h, gAdd (.val (.tuple (W.take a ++ [x]))) (.val (.tuple (W.drop (a + 1)))) h = some (.tuple (W.take a ++ [x] ++ W.drop (a + 1))) := fun h => v_addT (by simp only [List.length_append, List.length_singleton]; omega)
  have e1 : (-1 : Int) + deep = deep - 1 := by omega
  refine ⟨x, s', bx, ?_⟩
  unfold recS
  simp [c1, c3, ea, ec, line_s, a1, a2]
end FL
namespace FL
open PySem PySem.Spec PyProof.Rows L2
@[simp] theorem e_amongD {d : PyData} {a b : Int} : m_is_among [d, .int a, .int b] [] = .ok (.bool (amB d a b)) [] := by
  cases d <;> simp [m_is_among, b_is_among]
@[simp] theorem e_numD {n : Nat} {rs : List Road} {d : PyData} : m_is_number_of_road [netD n rs, d] [] = .ok (.bool (amB d 0 (rs.length - 1))) [] := by
  simp [m_is_number_of_road, b_is_number_of_road, netD]
end FL
namespace FL
open PySem PySem.Spec PyProof.Rows L2
def ne2 : PyData → PyData → Bool
  | .int i, .int j => decide (i ≠ j)
  | _, _ => false
def rdB (n : Int) : PyData → Bool
  | .tuple [a, b, c, t] => amB a 0 (n - 1) && amB b 0 (n - 1) && (ne2 a b && (amB c 1 99 && amB t 0 99))
  | _ => false
def netB : PyData → Bool
  | .tuple [.int n, .tuple rs] => amB (.int n) 1 10 && (decide (rs.length ≤ 30) && rs.all (rdB n))
  | _ => false
theorem am_int {d : PyData} {a b : Int} (h : amB d a b = true) : ∃ i, d = .int i ∧ a ≤ i ∧ i ≤ b := by
  cases d with
  | int i => exact ⟨i, rfl, by simpa using h⟩
  | _ => cases h
def ln4 (d : PyData) : Prop := ∀ ds, d = .tuple ds → ds.length ≤ 1000
theorem e_isRoadA {n : Int} {d : PyData} (hd : ln4 d) : m_is_road [d, .int n] [] = .ok (.bool (rdB n d)) [] := by
  cases d with
  | tuple ds =>
    by_cases h4 : ds.length = 4
    · match ds, h4 with
      | [a, b, c, t], _ =>
        have e1 : cutD [a, b, c, t] none (some 2) = [a, b] := cut_to (k := 2)
        cases ha : amB a 0 (n - 1) with
        | false => simp [m_is_road, b_is_road, rdB, e1, compL, bools?, ha]
        | true =>
          cases hb : amB b 0 (n - 1) with
          | false => simp [m_is_road, b_is_road, rdB, e1, compL, bools?, ha, hb]
          | true =>
            obtain ⟨i, rfl, _⟩ := am_int ha
            obtain ⟨j, rfl, _⟩ := am_int hb
            by_cases ij : i = j
            · subst ij
              simp [m_is_road, b_is_road, rdB, e1, compL, bools?, ha, hb, ne2]
            · cases hc : amB c 1 99 with
              | false => simp [m_is_road, b_is_road, rdB, e1, compL, bools?, ha, hb, ne2, ij, hc]
              | true => simp [m_is_road, b_is_road, rdB, e1, compL, bools?, ha, hb, ne2, ij, hc]
    · have h4' : ¬ (ds.length : Int) = 4 := by omega
      have e : rdB n (.tuple ds) = false := by
        unfold rdB
        split
        · rename_i q
          cases q
          exact absurd rfl h4
        · rfl
      simp [m_is_road, b_is_road, e, h4']
  | none => simp [m_is_road, b_is_road, rdB]
  | bool _ => simp [m_is_road, b_is_road, rdB]
  | int _ => simp [m_is_road, b_is_road, rdB]
  | str _ => simp [m_is_road, b_is_road, rdB]
  | list _ => simp [m_is_road, b_is_road, rdB]
  | dict _ => simp [m_is_road, b_is_road, rdB]
def lnN (d : PyData) : Prop := ∀ ds, d = .tuple ds → ds.length ≤ 1000 ∧ ∀ p q, ds = [p, q] → ∀ rs, q = .tuple rs → rs.length ≤ 1000 ∧ ∀ r ∈ rs, ln4 r
theorem netB_two {p q : PyData} (h : ¬ ∃ n rs, p = .int n ∧ q = .tuple rs) : netB (.tuple [p, q]) = false := by
  unfold netB
  split
  · rename_i e
    cases e
    exact absurd ⟨_, _, rfl, rfl⟩ h
  · rfl
theorem netB_len {ds : List PyData} (h : ds.length ≠ 2) : netB (.tuple ds) = false := by
  unfold netB
  split
  · rename_i e
    cases e
    exact absurd rfl h
  · rfl
theorem e_isNetA {d : PyData} (hd : lnN d) : m_is_net [d] [] = .ok (.bool (netB d)) [] := by
  cases d with
  | tuple ds =>
    obtain ⟨l1, l2⟩ := hd ds rfl
    by_cases h2 : ds.length = 2
    · match ds, h2 with
      | [p, q], _ =>
        cases hp : amB p 1 10 with
        | false =>
          have e : netB (.tuple [p, q]) = false := by
            by_cases z : ∃ n rs, p = .int n ∧ q = .tuple rs
            · obtain ⟨n, rs, rfl, rfl⟩ := z
              simp only [netB, hp, Bool.false_and]
            · exact netB_two z
          simp [m_is_net, b_is_net, e, hp]
        | true =>
          obtain ⟨n, rfl, _⟩ := am_int hp
          cases q with
          | tuple rs =>
            obtain ⟨l3, l4⟩ := l2 _ _ rfl rs rfl
            have e : netB (.tuple [.int n, .tuple rs]) = (decide (rs.length ≤ 30) && rs.all (rdB n)) := by simp only [netB, hp, Bool.true_and]
            by_cases h30 : rs.length ≤ 30
            · have h30' : (rs.length : Int) ≤ 30 := by omega
              have cm := comp_map (tg := .nm 3) (c := tTrue) (f := eCall m_is_road [false, false] false (aCons (eVar 3) (aCons (eVar 1) aNil))) (env := [some (.val (.tuple [.int n, .tuple rs])), some (.val (.int n)), some (.val (.tuple rs)), none]) (h := []) (dd := fun d : PyData => d) (w := fun d => .bool (rdB n d)) (E := fun z : PyData => [some (.val (.tuple [.int n, .tuple rs])), some (.val (.int n)), some (.val (.tuple rs)), some (.val z)]) (fun z => by simp) (fun z => by simp) rs [] (fun z m => by simp [e_isRoadA (l4 z m)]) (by simp; omega)
              rw [List.map_id', List.nil_append] at cm
              simp [m_is_net, b_is_net, e, hp, h30, h30', cm]
              simp [bools_map]
            · have h30' : ¬ (rs.length : Int) ≤ 30 := by omega
              simp [m_is_net, b_is_net, e, hp, h30, h30']
          | none => rw [netB_two (by rintro ⟨_, _, _, q⟩; cases q)]; simp [m_is_net, b_is_net, hp]
          | bool _ => rw [netB_two (by rintro ⟨_, _, _, q⟩; cases q)]; simp [m_is_net, b_is_net, hp]
          | int _ => rw [netB_two (by rintro ⟨_, _, _, q⟩; cases q)]; simp [m_is_net, b_is_net, hp]
          | str _ => rw [netB_two (by rintro ⟨_, _, _, q⟩; cases q)]; simp [m_is_net, b_is_net, hp]
          | list _ => rw [netB_two (by rintro ⟨_, _, _, q⟩; cases q)]; simp [m_is_net, b_is_net, hp]
          | dict _ => rw [netB_two (by rintro ⟨_, _, _, q⟩; cases q)]; simp [m_is_net, b_is_net, hp]
    · have h2' : ¬ (ds.length : Int) = 2 := by omega
      simp [m_is_net, b_is_net, netB_len h2, h2']
  | none => simp [m_is_net, b_is_net, netB]
  | bool _ => simp [m_is_net, b_is_net, netB]
  | int _ => simp [m_is_net, b_is_net, netB]
  | str _ => simp [m_is_net, b_is_net, netB]
  | list _ => simp [m_is_net, b_is_net, netB]
  | dict _ => simp [m_is_net, b_is_net, netB]
theorem e_needNetN {d : PyData} (hd : lnN d) (h : netB d = false) : m_need_net [d] [] = .err ⟨"NoNet", []⟩ [] := by
  have := e_isNetA hd
  rw [h] at this
  simp [m_need_net, b_need_net, this]
end FL
namespace FL
open PySem PySem.Spec PyProof.Rows L2
theorem forAllN {α : Type} {src : En → Hs → Rz (List PyData)} {tg : Tg} {p : Sv} {dd : α → PyData} (G : α → Bool) {I : En → Prop} {env : En} {xs : List α} (q : src env [] = .ok (xs.map dd) []) (i : I env)
    (st : ∀ x ∈ xs, ∀ e, I e → ∃ e1, tg.put (dd x) e = some e1 ∧ Out (p e1 []) (fun e h => I (cutE 0 e) ∧ h = [] ∧ G x = true) (fun s h => s = .val (.bool false) ∧ h = [] ∧ G x = false)) :
    Out (sFor src tg p env []) (fun e h => I e ∧ h = [] ∧ xs.all G = true) (fun s h => s = .val (.bool false) ∧ h = [] ∧ xs.all G = false) := by
  have main := Out.forR (p := p) (tg := tg) (h1 := []) (I := fun rest e h => ∃ ys : List α, rest = ys.map dd ∧ (∀ y ∈ ys, y ∈ xs) ∧ I e ∧ h = [] ∧ xs.all G = ys.all G) (R := fun s h => s = .val (.bool false) ∧ h = [] ∧ xs.all G = false) q ⟨xs, rfl, fun _ m => m, i, rfl, rfl⟩ (fun d rest e h => by
    rintro ⟨ys, e1, sub, ie, rfl, ea⟩
    cases ys with
    | nil => cases e1
    | cons y ys =>
      rw [List.map_cons, List.cons.injEq] at e1
      obtain ⟨rfl, rfl⟩ := e1
      obtain ⟨e1, put, o⟩ := st y (sub y List.mem_cons_self) e ie
      refine ⟨e1, put, o.mono ?_ ?_⟩
      · rintro e' _ ⟨i', rfl, g⟩
        exact ⟨ys, rfl, fun z m => sub z (List.mem_cons_of_mem _ m), i', rfl, by rw [ea, List.all_cons, g]; rfl⟩
      · rintro s _ ⟨rfl, rfl, g⟩
        exact ⟨rfl, rfl, by rw [ea, List.all_cons, g]; rfl⟩)
  refine main.mono ?_ fun _ _ z => z
  rintro e h ⟨ys, e1, _, ie, rfl, ea⟩
  cases ys with
  | nil => exact ⟨ie, rfl, ea⟩
  | cons _ _ => cases e1
theorem e_lawNumN {d : PyData} {a b : Int} : m__law_number [d, .int a, .int b] [] = .ok (.bool (amB d a b)) [] := by
  cases d <;> simp [m__law_number, b__law_number]
theorem li_road {n : Int} {rs : List PyData} {r : PyData} (hr : ln4 r) {y2 y3 : Option Sl} :
    Out (l__law_is_net_1 [some (.val (.tuple [.int n, .tuple rs])), some (.val (r)), y2, y3] []) (fun e h => (∃ y1 y2 y3 : Option Sl, e = [some (.val (.tuple [.int n, .tuple rs])), y1, y2, y3]) ∧ h = [] ∧ rdB n r = true) (fun s h => s = .val (.bool false) ∧ h = [] ∧ rdB n r = false) := by
  have iw : ∀ h : Hs, items (.val (.tuple [.int n, .tuple rs])) h = some [.int n, .tuple rs] := fun h => rfl
  have en : ∀ (d : PyData) (a b : Int), m__law_number [d, .int a, .int b] [] = .ok (.bool (amB d a b)) [] := fun d a b => e_lawNumN
  have bad : rdB n r = false → (l__law_is_net_1 [some (.val (.tuple [.int n, .tuple rs])), some (.val (r)), y2, y3] [] = .ret (.val (.bool false)) []) → Out (l__law_is_net_1 [some (.val (.tuple [.int n, .tuple rs])), some (.val (r)), y2, y3] []) (fun e h => (∃ y1 y2 y3 : Option Sl, e = [some (.val (.tuple [.int n, .tuple rs])), y1, y2, y3]) ∧ h = [] ∧ rdB n r = true) (fun s h => s = .val (.bool false) ∧ h = [] ∧ rdB n r = false) := fun b e => Out.ret e ⟨rfl, rfl, b⟩
  cases r with
  | tuple ds =>
    by_cases h4 : ds.length = 4
    · match ds, h4 with
      | [a, b, c, t], _ =>
        have e1 : cutD [a, b, c, t] none (some 2) = [a, b] := cut_to (k := 2)
        have ir : ∀ h : Hs, items (.val (.tuple [a, b, c, t])) h = some [a, b, c, t] := fun h => rfl
        cases hc : amB c 1 99 with
        | false =>
          refine bad (by simp [rdB, hc]) ?_
          unfold l__law_is_net_1
          simp [ir, en, hc]
        | true =>
          have nl : ∀ (x y : Bool) (h : Hs), gNe (.val (.list [.bool x, .bool y])) (.val (.list [.bool true, .bool true])) h = some (.bool (!(x && y))) := fun x y h => by cases x <;> cases y <;> kernel_rfl
          have ec : compL (.nm 3) tTrue (eCall m__law_number [false, false, false] false (aCons (eVar 3) (aCons (eK (.int 0)) (aCons (cBin (gI fSub) (cBin gIx (eVar 0) (eK (.int 0))) (eK (.int 1))) aNil)))) [some (.val (.tuple [.int n, .tuple rs])), some (.val (.tuple [a, b, c, t])), y2, none] [a, b] [] [] = .ok [.bool (amB a 0 (n - 1)), .bool (amB b 0 (n - 1))] [] := by
            simp [compL, iw, en]
          cases ha : amB a 0 (n - 1) with
          | false =>
            refine bad (by simp [rdB, ha]) ?_
            unfold l__law_is_net_1
            rw [ha] at ec
            simp [ir, en, hc, e1, ec, nl, line_s]
          | true =>
            cases hb : amB b 0 (n - 1) with
            | false =>
              refine bad (by simp [rdB, hb]) ?_
              unfold l__law_is_net_1
              rw [ha, hb] at ec
              simp [ir, en, hc, e1, ec, nl, line_s]
            | true =>
              obtain ⟨i, rfl, _⟩ := am_int ha
              obtain ⟨j, rfl, _⟩ := am_int hb
              rw [ha, hb] at ec
              by_cases ij : i = j
              · subst ij
                refine bad (by simp [rdB, ne2]) ?_
                unfold l__law_is_net_1
                simp [ir, en, hc, e1, ec, nl, line_s]
              · cases ht : amB t 0 99 with
                | false =>
                  refine bad (by simp [rdB, ht]) ?_
                  unfold l__law_is_net_1
                  simp [ir, en, hc, e1, ec, nl, line_s, ij, ht]
                | true =>
                  refine Out.next (e := [some (.val (.tuple [.int n, .tuple rs])), some (.val (.tuple [.int i, .int j, c, t])), some (.val (.list [.bool true, .bool true])), y3]) (h := []) ?_ ⟨⟨_, _, _, rfl⟩, rfl, by simp [rdB, ha, hb, hc, ht, ne2, ij]⟩
                  unfold l__law_is_net_1
                  simp [ir, en, hc, e1, ec, nl, line_s, ij, ht]
    · have h4' : ¬ (ds.length : Int) = 4 := by omega
      have e : rdB n (.tuple ds) = false := by
        unfold rdB
        split
        · rename_i q
          cases q
          exact absurd rfl h4
        · rfl
      refine bad e ?_
      unfold l__law_is_net_1
      simp [h4']
  | none => exact bad rfl (by unfold l__law_is_net_1; simp)
  | bool _ => exact bad rfl (by unfold l__law_is_net_1; simp)
  | int _ => exact bad rfl (by unfold l__law_is_net_1; simp)
  | str _ => exact bad rfl (by unfold l__law_is_net_1; simp)
  | list _ => exact bad rfl (by unfold l__law_is_net_1; simp)
  | dict _ => exact bad rfl (by unfold l__law_is_net_1; simp)
theorem e_lawIsNet {d : PyData} (hd : lnN d) : m__law_is_net [d] [] = .ok (.bool (netB d)) [] := by
  have en : ∀ (d : PyData) (a b : Int), m__law_number [d, .int a, .int b] [] = .ok (.bool (amB d a b)) [] := fun d a b => e_lawNumN
  cases d with
  | tuple ds =>
    obtain ⟨l1, l2⟩ := hd ds rfl
    by_cases h2 : ds.length = 2
    · match ds, h2 with
      | [p, q], _ =>
        have ix : ∀ h : Hs, items (.val (.tuple [p, q])) h = some [p, q] := fun h => rfl
        cases hp : amB p 1 10 with
        | false =>
          have e : netB (.tuple [p, q]) = false := by
            by_cases z : ∃ n rs, p = .int n ∧ q = .tuple rs
            · obtain ⟨n, rs, rfl, rfl⟩ := z
              simp only [netB, hp, Bool.false_and]
            · exact netB_two z
          simp [m__law_is_net, b__law_is_net, e, en, hp, ix]
        | true =>
          obtain ⟨n, rfl, _⟩ := am_int hp
          cases q with
          | tuple rs =>
            obtain ⟨l3, l4⟩ := l2 _ _ rfl rs rfl
            have e : netB (.tuple [.int n, .tuple rs]) = (decide (rs.length ≤ 30) && rs.all (rdB n)) := by simp only [netB, hp, Bool.true_and]
            by_cases h30 : rs.length ≤ 30
            · have h30' : ¬ (30 : Int) < rs.length := by omega
              rw [e, decide_eq_true h30, Bool.true_and]
              have key := run_ex (fr := false) (io := [false]) (nl := 3) (p := b__law_is_net) (ds := [.tuple [.int n, .tuple rs]]) (os := []) (P := fun x h => x = .bool (rs.all (rdB n)) ∧ h = []) ?_
              · obtain ⟨x, h, e, rfl, rfl⟩ := key
                exact e
              have e0 : mkEnv [false] [.tuple [.int n, .tuple rs]] 0 ++ List.replicate 3 none = [some (.val (.tuple [.int n, .tuple rs])), none, none, none] := rfl
              rw [e0]
              unfold b__law_is_net
              refine Out.seqEq (e1 := [some (.val (.tuple [.int n, .tuple rs])), none, none, none]) (h1 := []) (by simp [en, hp, ix]) ?_
              refine Out.seqEq (e1 := [some (.val (.tuple [.int n, .tuple rs])), none, none, none]) (h1 := []) (by simp [ix, h30']) ?_
              refine Out.seq (A := fun e h => (∃ y1 y2 y3 : Option Sl, e = [some (.val (.tuple [.int n, .tuple rs])), y1, y2, y3]) ∧ h = [] ∧ rs.all (rdB n) = true) ?_ ?_
              · refine (forAllN (dd := fun x : PyData => x) (fun x : PyData => rdB n x) (xs := rs) (I := fun e => ∃ y1 y2 y3 : Option Sl, e = [some (.val (.tuple [.int n, .tuple rs])), y1, y2, y3]) (by simp [ix]) ⟨_, _, _, rfl⟩ ?_).mono ?_ ?_
                · rintro r mr _ ⟨y1, y2, y3, rfl⟩
                  refine ⟨[some (.val (.tuple [.int n, .tuple rs])), some (.val (r)), y2, y3], by simp, (li_road (l4 r mr)).mono ?_ fun _ _ z => z⟩
                  rintro _ _ ⟨⟨y1, y2, y3, rfl⟩, rfl, g⟩
                  exact ⟨⟨_, _, _, rfl⟩, rfl, g⟩
                · rintro e h ⟨i, rfl, g⟩
                  exact ⟨i, rfl, g⟩
                · rintro _ _ ⟨rfl, rfl, g⟩
                  exact ⟨_, _, v_outV, by rw [g], rfl⟩
              · rintro _ _ ⟨⟨y1, y2, y3, rfl⟩, rfl, g⟩
                exact Out.ret (s := .val (.bool true)) (h := []) (by simp) ⟨_, _, v_outV, by rw [g], rfl⟩
            · have h30' : (30 : Int) < rs.length := by omega
              simp [m__law_is_net, b__law_is_net, e, en, hp, ix, h30, h30']
          | none => rw [netB_two (by rintro ⟨_, _, _, q⟩; cases q)]; simp [m__law_is_net, b__law_is_net, en, hp, ix]
          | bool _ => rw [netB_two (by rintro ⟨_, _, _, q⟩; cases q)]; simp [m__law_is_net, b__law_is_net, en, hp, ix]
          | int _ => rw [netB_two (by rintro ⟨_, _, _, q⟩; cases q)]; simp [m__law_is_net, b__law_is_net, en, hp, ix]
          | str _ => rw [netB_two (by rintro ⟨_, _, _, q⟩; cases q)]; simp [m__law_is_net, b__law_is_net, en, hp, ix]
          | list _ => rw [netB_two (by rintro ⟨_, _, _, q⟩; cases q)]; simp [m__law_is_net, b__law_is_net, en, hp, ix]
          | dict _ => rw [netB_two (by rintro ⟨_, _, _, q⟩; cases q)]; simp [m__law_is_net, b__law_is_net, en, hp, ix]
    · have h2' : ¬ (ds.length : Int) = 2 := by omega
      simp [m__law_is_net, b__law_is_net, netB_len h2, h2']
  | none => simp [m__law_is_net, b__law_is_net, netB]
  | bool _ => simp [m__law_is_net, b__law_is_net, netB]
  | int _ => simp [m__law_is_net, b__law_is_net, netB]
  | str _ => simp [m__law_is_net, b__law_is_net, netB]
  | list _ => simp [m__law_is_net, b__law_is_net, netB]
  | dict _ => simp [m__law_is_net, b__law_is_net, netB]
end FL
namespace FL
open PySem PySem.Spec PyProof.Rows L2 PySem.W
def intB (d : PyData) : Prop := ∀ i, d = .int i → -10000000000000000000000000000000 ≤ i ∧ i ≤ 10000000000000000000000000000000
def wOf : List Nat → Nat
  | [] => 40
  | m :: ms => m * (wOf ms + 2) + 43
def OkZ : List Nat → PyData → Prop
  | [], d => Rk 40 1 d ∧ intB d ∧ (∀ ds, d = .tuple ds → ds = []) ∧ ∀ ds, d = .list ds → ds = []
  | m :: ms, d => (Rk 40 1 d ∧ intB d ∧ (∀ ds, d = .tuple ds → ds = []) ∧ ∀ ds, d = .list ds → ds = []) ∨ ∃ ds, (d = .tuple ds ∨ d = .list ds) ∧ ds.length ≤ m ∧ ∀ x ∈ ds, OkZ ms x
theorem OkZ.rk : ∀ {ms : List Nat} {d : PyData}, OkZ ms d → Rk (wOf ms) (ms.length + 1) d
  | [], d, h => h.1
  | m :: ms, d, h => by
    rcases h with h | ⟨ds, e, hl, hx⟩
    · exact h.1.mono (by simp [wOf]) (by simp)
    · have hm := Nat.mul_le_mul_right (wOf ms + 2) hl
      rcases e with rfl | rfl
      · exact (Rk.tuple fun d md => (hx d md).rk).mono (by simp only [wOf]; omega) (by simp)
      · exact (Rk.list fun d md => (hx d md).rk).mono (by simp only [wOf]; omega) (by simp)
theorem OkZ.int : ∀ {ms : List Nat} {d : PyData}, OkZ ms d → intB d
  | [], d, h => h.2.1
  | m :: ms, d, h => by
    rcases h with h | ⟨ds, rfl | rfl, _⟩
    · exact h.2.1
    · exact fun i e => by cases e
    · exact fun i e => by cases e
theorem OkZ.sub {m : Nat} {ms : List Nat} {ds : List PyData} (h : OkZ (m :: ms) (.tuple ds)) : ds.length ≤ m ∧ ∀ x ∈ ds, OkZ ms x := by
  rcases h with h | ⟨es, e, hl, hx⟩
  · have := h.2.2.1 ds rfl
    subst this
    exact ⟨by simp, fun x m => by cases m⟩
  · rcases e with e | e
    · cases e
      exact ⟨hl, hx⟩
    · cases e
def AtA (d : PyData) : Prop := (∃ i : Int, d = .int i ∧ -1000000 ≤ i ∧ i ≤ 1000000) ∨ d = .str "bound" ∨ d = .str "cut"
theorem at_zero {d : PyData} (r : Rk 40 1 d) (i : intB d) (t : ∀ ds, d = .tuple ds → ds = []) (l : ∀ ds, d = .list ds → ds = []) : ∀ ms, OkZ ms d
  | [] => ⟨r, i, t, l⟩
  | _ :: _ => .inl ⟨r, i, t, l⟩
def atB (d : PyData) : Bool := d.canLay0 && decide (d.depth ≤ 1) && d.showable && decide (d.shown.length ≤ 40) && match d with
  | .int i => decide (-10000000000000000000000000000000 ≤ i) && decide (i ≤ 10000000000000000000000000000000)
  | .tuple ds => ds.isEmpty
  | .list ds => ds.isEmpty
  | _ => true
theorem atB_ok {d : PyData} (h : atB d = true) (ms : List Nat) : OkZ ms d := by
  unfold atB at h
  simp only [Bool.and_eq_true, decide_eq_true_eq] at h
  obtain ⟨⟨⟨⟨h1, h2⟩, h3⟩, h4⟩, h5⟩ := h
  refine at_zero ⟨h1, h2, h3, h4⟩ (fun i e => ?_) (fun ds e => ?_) (fun ds e => ?_) ms
  · subst e
    simpa using h5
  · subst e
    cases ds with
    | nil => rfl
    | cons _ _ => cases h5
  · subst e
    cases ds with
    | nil => rfl
    | cons _ _ => cases h5
theorem rk_int40 {i : Int} (h : i.natAbs < 10 ^ 32) : Rk 40 1 (.int i) := by
  have b : i.natAbs < 2 ^ 1920 := Nat.lt_of_lt_of_le h (by decide +kernel)
  have r := Rk.int b
  refine ⟨r.lay, Nat.le_trans r.dep (by decide), r.sh, ?_⟩
  have e : (PyData.shown (.int i)).length = (toString i).length := by
    show (Str.ofString (toString i)).length = _
    exact PySem.ofString_length _
  rw [e]
  have := int_text_length_le10 (a := i) (k := 32) (by decide) h
  omega
theorem int_okZ {i : Int} (h1 : -10000000000000000000000000000000 ≤ i) (h2 : i ≤ 10000000000000000000000000000000) (ms : List Nat) : OkZ ms (.int i) :=
  at_zero (rk_int40 (by omega)) (fun j e => by cases e; exact ⟨h1, h2⟩) (fun ds e => by cases e) (fun ds e => by cases e) ms
theorem AtA.ok {d : PyData} (h : AtA d) (ms : List Nat) : OkZ ms d := by
  rcases h with ⟨i, rfl, h1, h2⟩ | rfl | rfl
  · exact int_okZ (by omega) (by omega) ms
  · exact atB_ok (by decide +kernel) ms
  · exact atB_ok (by decide +kernel) ms
theorem okZ_tup {m : Nat} {ms : List Nat} {ds : List PyData} (hl : ds.length ≤ m) (h : ∀ x ∈ ds, OkZ ms x) : OkZ (m :: ms) (.tuple ds) := .inr ⟨ds, .inl rfl, hl, h⟩
theorem okZ_lst {m : Nat} {ms : List Nat} {ds : List PyData} (hl : ds.length ≤ m) (h : ∀ x ∈ ds, OkZ ms x) : OkZ (m :: ms) (.list ds) := .inr ⟨ds, .inr rfl, hl, h⟩
def A1 (x : PyData) : Prop := AtA x ∨ ∃ V, x = .tuple V ∧ V.length ≤ 5 ∧ ∀ y ∈ V, AtA y
def A2 (x : PyData) : Prop := AtA x ∨ ∃ V, x = .tuple V ∧ V.length ≤ 45 ∧ ∀ y ∈ V, A1 y
theorem A1.ok {x : PyData} (h : A1 x) : OkZ [6] x := by
  rcases h with h | ⟨V, rfl, hl, hV⟩
  · exact h.ok _
  · exact okZ_tup (by omega) fun y m => (hV y m).ok _
theorem A2.ok {x : PyData} (h : A2 x) : OkZ [46, 6] x := by
  rcases h with h | ⟨V, rfl, hl, hV⟩
  · exact h.ok _
  · exact okZ_tup (by omega) fun y m => (hV y m).ok
theorem sod_okZ (ms : List Nat) : ∀ d ∈ sodL, OkZ ms d := fun d m => atB_ok (List.all_eq_true.mp (show sodL.all atB = true by decide +kernel) d m) ms
theorem atA_int {i : Int} (h : AtA (.int i)) : -1000000 ≤ i ∧ i ≤ 1000000 := by
  rcases h with ⟨j, e, h1, h2⟩ | e | e
  · cases e; exact ⟨h1, h2⟩
  · cases e
  · cases e
theorem atA_nob {b : Bool} : ¬ AtA (.bool b) := by
  rintro (⟨j, e, _⟩ | e | e) <;> cases e
theorem cl0 : Cl AtA (OkZ []) where
  sub := fun d h => h.ok []
  sod := sod_okZ []
  inc := fun i h => by
    have := atA_int h
    exact ⟨int_okZ (by omega) (by omega) _, int_okZ (by omega) (by omega) _⟩
  nob := fun b => atA_nob
theorem cl1 : Cl A1 (OkZ [6]) where
  sub := fun d h => h.ok
  sod := sod_okZ _
  inc := fun i h => by
    rcases h with h | ⟨V, e, _⟩
    · have := atA_int h
      exact ⟨int_okZ (by omega) (by omega) _, int_okZ (by omega) (by omega) _⟩
    · cases e
  nob := fun b h => by
    rcases h with h | ⟨V, e, _⟩
    · exact atA_nob h
    · cases e
theorem cl2 : Cl A2 (OkZ [46, 6]) where
  sub := fun d h => h.ok
  sod := sod_okZ _
  inc := fun i h => by
    rcases h with h | ⟨V, e, _⟩
    · have := atA_int h
      exact ⟨int_okZ (by omega) (by omega) _, int_okZ (by omega) (by omega) _⟩
    · cases e
  nob := fun b h => by
    rcases h with h | ⟨V, e, _⟩
    · exact atA_nob h
    · cases e
theorem sp0 {V : List PyData} {s : Dr} (hV : ∀ d ∈ V, AtA d) (hl : V.length ≤ 5) : ∃ x s', OkZ [6] x ∧ m__law_spoilt_r0 [.tuple V, .int 0] [s.o] = .ok x [(s' : Dr).o] := by
  obtain ⟨d, s', h, e⟩ := spG_body (rec := sNever) (W := V) (deep := 0) (s := s) cl0 hV (by omega) (fun z => absurd z (by decide))
  refine ⟨d, s', ?_, by unfold m__law_spoilt_r0; rw [spoilt_r0]; exact e⟩
  cases h with
  | tup X hX hl2 => exact okZ_tup (by omega) hX
  | lst => exact okZ_lst (by omega) fun d m => (hV d m).ok _
theorem spoilt_r1_is : b__law_spoilt_r1 = bodySp (recS m__law_spoilt_r0) := rfl
theorem spoilt_main : b__law_spoilt = bodySp (recS m__law_spoilt_r1) := rfl
theorem sp1 {W : List PyData} {s : Dr} (hW : ∀ d ∈ W, A1 d) (hl : W.length ≤ 45) : ∃ x s', OkZ [46, 6] x ∧ m__law_spoilt_r1 [.tuple W, .int 1] [s.o] = .ok x [(s' : Dr).o] := by
  obtain ⟨d, s', h, e⟩ := spG_body (rec := recS m__law_spoilt_r0) (W := W) (deep := 1) (s := s) cl1 hW (by omega) (fun _ => rec_of (B := OkZ [6]) (by omega) fun V st m => by
    rcases hW _ m with h | ⟨V', e, hl', hV⟩
    · rcases h with ⟨j, e, _⟩ | e | e <;> cases e
    · cases e
      exact sp0 hV hl')
  refine ⟨d, s', ?_, by unfold m__law_spoilt_r1; rw [spoilt_r1_is]; exact e⟩
  cases h with
  | tup X hX hl2 => exact okZ_tup (by omega) hX
  | lst => exact okZ_lst (by omega) fun d m => (hW d m).ok
theorem c_spoilt2 {W : List PyData} {s : Dr} {r : Hs} (hW : ∀ d ∈ W, A2 d) (hl : W.length ≤ 6) : ∃ x s', OkZ [7, 46, 6] x ∧ callF m__law_spoilt [true, false, false] false [.loc 0, .val (.tuple W), .val (.int 2)] (s.o :: r) = .ok (.val x) ((s' : Dr).o :: r) := by
  obtain ⟨d, s', h, e⟩ := spG_body (rec := recS m__law_spoilt_r1) (W := W) (deep := 2) (s := s) cl2 hW (by omega) (fun _ => rec_of (B := OkZ [46, 6]) (by omega) fun V st m => by
    rcases hW _ m with h | ⟨V', e, hl', hV⟩
    · rcases h with ⟨j, e, _⟩ | e | e <;> cases e
    · cases e
      exact sp1 hV hl')
  refine ⟨d, s', ?_, callF_eq (ns := [0]) (os := [s.o]) (os' := [s'.o]) (vw := []) rfl rfl (Or.inl rfl) (by unfold m__law_spoilt; rw [spoilt_main]; exact e) (Or.inl rfl)⟩
  cases h with
  | tup X hX hl2 => exact okZ_tup (by omega) hX
  | lst => exact okZ_lst (by omega) fun d m => (hW d m).ok
/-- what is drawn and told: a tuple of few such things -/
def A3 (D : PyData) : Prop := ∃ W, D = .tuple W ∧ W.length ≤ 6 ∧ ∀ d ∈ W, A2 d
theorem A3.ok {D : PyData} (h : A3 D) : OkZ [7, 46, 6] D := by
  obtain ⟨W, rfl, hl, hW⟩ := h
  exact okZ_tup (by omega) fun d m => (hW d m).ok
end FL
namespace FL
open PySem PySem.Spec PyProof.Rows L2
theorem w_net : m__law_word ⟨"NoNet", []⟩ = some (.tuple [.str "net"]) := by rfl
@[simp] theorem s_net {h : Hs} : said? false R_ m__law_word (.err ⟨"NoNet", []⟩ h) = .ok (.val (.tuple [.str "net"])) h := said_err (by decide) w_net
@[simp] theorem n_net {h : Hs} : gNe (.val (.tuple [.str "net"])) (.val (.tuple [.str "net"])) h = some (.bool false) := v_ne_self (rk_word (by decide +kernel) (by decide +kernel)) (by decide)
theorem w_place : m__law_word ⟨"NoPlace", []⟩ = some (.tuple [.str "place"]) := by rfl
@[simp] theorem s_place {h : Hs} : said? false R_ m__law_word (.err ⟨"NoPlace", []⟩ h) = .ok (.val (.tuple [.str "place"])) h := said_err (by decide) w_place
@[simp] theorem n_place {h : Hs} : gNe (.val (.tuple [.str "place"])) (.val (.tuple [.str "place"])) h = some (.bool false) := v_ne_self (rk_word (by decide +kernel) (by decide +kernel)) (by decide)
theorem w_shut : m__law_word ⟨"NoShut", []⟩ = some (.tuple [.str "shut"]) := by rfl
@[simp] theorem s_shut {h : Hs} : said? false R_ m__law_word (.err ⟨"NoShut", []⟩ h) = .ok (.val (.tuple [.str "shut"])) h := said_err (by decide) w_shut
@[simp] theorem n_shut {h : Hs} : gNe (.val (.tuple [.str "shut"])) (.val (.tuple [.str "shut"])) h = some (.bool false) := v_ne_self (rk_word (by decide +kernel) (by decide +kernel)) (by decide)
end FL
namespace FL
open PySem PySem.Spec PyProof.Rows L2 PySem.W
theorem cPO {a b : PyData} {h : Hs} : callA m_prices_of [false, false, false] false (2, [], [.ix 0, .ix 1, .df 0 (.tuple [])]) [.val a, .val b] [] h = callF m_prices_of [false, false, false] false [.val a, .val b, .val (.tuple [])] h := by
  rw [callA_of rfl rfl]
  rfl
theorem cAP {a b c : PyData} {h : Hs} : callA m_are_prices [false, false, false, false] false (3, [], [.ix 0, .ix 1, .ix 2, .df 0 (.tuple [])]) [.val a, .val b, .val c] [] h = callF m_are_prices [false, false, false, false] false [.val a, .val b, .val c, .val (.tuple [])] h := by
  rw [callA_of rfl rfl]
  rfl
theorem r_way {d : PyData} (hd : lnN d) (h : netB d = false) : m_way_of [d, .none, .none] [] = .err ⟨"NoNet", []⟩ [] := by
  have e := e_needNetN hd h
  simp [m_way_of, b_way_of, e]
theorem r_simple {d : PyData} (hd : lnN d) (h : netB d = false) : m_is_simple [d, .int 99, .tuple []] [] = .err ⟨"NoNet", []⟩ [] := by
  have e := e_needNetN hd h
  simp [m_is_simple, b_is_simple, e]
theorem r_prices {d : PyData} (hd : lnN d) (h : netB d = false) : m_prices_of [d, .none, .tuple []] [] = .err ⟨"NoNet", []⟩ [] := by
  have e := e_needNetN hd h
  simp [m_prices_of, b_prices_of, e]
theorem r_are {d : PyData} (hd : lnN d) (h : netB d = false) : m_are_prices [d, .int 0, .tuple [], .tuple []] [] = .err ⟨"NoNet", []⟩ [] := by
  have e := e_needNetN hd h
  simp [m_are_prices, b_are_prices, e]
theorem e_refused {d : PyData} (hd : lnN d) (h : netB d = false) : m__law_refused [d] [] = .ok (.bool true) [] := by
  have r1 := r_way hd h
  have r2 := r_simple hd h
  have r3 := r_prices hd h
  have r4 := r_are hd h
  unfold m__law_refused
  refine run_eq ?_
  have e0 : mkEnv [false] [d] 0 ++ List.replicate 2 none = [some (.val (d)), none, none] := rfl
  rw [e0]
  unfold b__law_refused
  have sa : ∀ h, said? false R_ m__law_word (.err ⟨"NoNet", []⟩ h) = .ok (.val (.tuple [.str "net"])) h := fun h => rfl
  have g4 : ∀ h, gRep [.val (.tuple [.str "net"])] (.val (.int 4)) h = .ok (.val (.list [.tuple [.str "net"], .tuple [.str "net"], .tuple [.str "net"], .tuple [.str "net"]])) h := fun h => rfl
  have q : ∀ h : Hs, gEq (.val (.list [.tuple [.str "net"], .tuple [.str "net"], .tuple [.str "net"], .tuple [.str "net"]])) (.val (.list [.tuple [.str "net"], .tuple [.str "net"], .tuple [.str "net"], .tuple [.str "net"]])) h = some (.bool true) := fun h => by
    have ok : eqOk (.list [.tuple [.str "net"], .tuple [.str "net"], .tuple [.str "net"], .tuple [.str "net"]]) (.list [.tuple [.str "net"], .tuple [.str "net"], .tuple [.str "net"], .tuple [.str "net"]]) = true := by decide +kernel
    show (if eqOk (.list [.tuple [.str "net"], .tuple [.str "net"], .tuple [.str "net"], .tuple [.str "net"]]) (.list [.tuple [.str "net"], .tuple [.str "net"], .tuple [.str "net"], .tuple [.str "net"]]) then some (PyData.bool (PyData.eqv (.list [.tuple [.str "net"], .tuple [.str "net"], .tuple [.str "net"], .tuple [.str "net"]]) (.list [.tuple [.str "net"], .tuple [.str "net"], .tuple [.str "net"], .tuple [.str "net"]]))) else none) = _
    rw [if_pos ok]
    simp [PyData.eqv, PyData.eqvAll]
  refine Out.ret (s := .val (.bool true)) (h := []) ?_ v_outV
  simp [sLams, eSaids, saidsL, cPO, cAP, r1, r2, r3, r4, sa, line_s, g4, q]
end FL
namespace FL
open PySem PySem.Spec PyProof.Rows L2 PySem.W
def lnNB : PyData → Bool
  | .tuple [_, .tuple rs] => decide (rs.length ≤ 1000) && rs.all fun r => match r with
    | .tuple ds => decide (ds.length ≤ 1000)
    | _ => true
  | .tuple ds => decide (ds.length ≤ 1000)
  | _ => true
theorem lnNB_ok {d : PyData} (h : lnNB d = true) : lnN d := by
  intro ds e
  subst e
  unfold lnNB at h
  split at h
  · rename_i a rs e
    cases e
    rw [Bool.and_eq_true, decide_eq_true_eq, List.all_eq_true] at h
    refine ⟨by simp, fun p q eq rs' er => ?_⟩
    cases eq
    cases er
    refine ⟨h.1, fun r m xs ex => ?_⟩
    have := h.2 r m
    subst ex
    simpa using this
  · rename_i ds' nt e
    cases e
    refine ⟨by simpa using h, fun p q eq rs' er => ?_⟩
    subst eq er
    exact absurd rfl (nt _ _)
  · rename_i e1 e2
    exact absurd rfl (e2 ds)
theorem odd_ln : ∀ d ∈ oddA, lnN d := fun d m => lnNB_ok (List.all_eq_true.mp (show oddA.all lnNB = true by decide +kernel) d m)
def WD (d : PyData) : Prop := Kd d ∧ lnN d
theorem okZ_ln {a b c : Nat} {d : PyData} (h : OkZ [a, b, c] d) (ha : a ≤ 1000) (hb : b ≤ 1000) (hc : c ≤ 1000) : lnN d := fun ds e => by
  subst e
  obtain ⟨h1, h2⟩ := h.sub
  refine ⟨by omega, fun p q eq rs er => ?_⟩
  subst eq er
  obtain ⟨h3, h4⟩ := (h2 (.tuple rs) (by simp)).sub
  refine ⟨by omega, fun r m xs ex => ?_⟩
  subst ex
  have := (h4 _ m).sub.1
  omega
theorem wd_46 {d : PyData} (h : OkZ [7, 46, 6] d) : WD d := ⟨.rk _ 4 h.rk (by decide) (by decide), okZ_ln h (by decide) (by decide) (by decide)⟩
theorem wd_70 {d : PyData} (h : OkZ [7, 70, 6] d) : WD d := ⟨.rk _ 4 h.rk (by decide) (by decide), okZ_ln h (by decide) (by decide) (by decide)⟩
theorem wd_66 {d : PyData} (h : OkZ [70, 6, 6] d) : WD d := ⟨.rk _ 4 h.rk (by decide) (by decide), okZ_ln h (by decide) (by decide) (by decide)⟩
theorem wd_odd {d : PyData} (m : d ∈ oddA) : WD d := ⟨(odd_kd d m).1, odd_ln d m⟩
theorem ok_int {i : Int} (h1 : -1000000 ≤ i) (h2 : i ≤ 1000000) (ms : List Nat) : OkZ ms (.int i) := (show AtA (.int i) from .inl ⟨i, rfl, h1, h2⟩).ok ms
theorem ok_road {n : Nat} {r : Road} {ms : List Nat} (hn : n ≤ 10) (hr : r.Ok n) : OkZ (6 :: ms) r.d := by
  have h1 := hr.one
  have h2 := hr.other
  have h3 := hr.c2
  have h4 := hr.t
  refine okZ_tup (ds := [.int (r.one : Nat), .int (r.other : Nat), .int (r.cost : Nat), .int (r.time : Nat)]) (by simp) fun d m => ?_
  simp only [List.mem_cons, List.not_mem_nil, or_false] at m
  rcases m with rfl | rfl | rfl | rfl <;> exact ok_int (by omega) (by omega) _
theorem ok_rows {n m : Nat} {rs : List Road} {ms : List Nat} (hn : n ≤ 10) (h : ∀ r ∈ rs, r.Ok n) (hl : rs.length ≤ m) : OkZ (m :: 6 :: ms) (.tuple (rs.map Road.d)) := okZ_tup (by simpa using hl) fun d md => by
  obtain ⟨r, mr, rfl⟩ := List.mem_map.mp md
  exact ok_road hn (h r mr)
/-- what is made of a net -/
def ofNet (n : Nat) (rs : List Road) : List PyData := [netD n rs, .list [.int n, .tuple (rs.map Road.d)], .tuple [.tuple (rs.map Road.d), .int n], .tuple [.int n, .tuple (rs.map Road.d), .tuple []], .tuple (rs.map Road.d)]
def twoNet (n : Nat) (rs : List Road) : PyData := .tuple [.int n, .tuple (rs.map Road.d ++ rs.map Road.d)]
theorem wd_net {n : Nat} {rs : List Road} (hn : NetOk n rs) : (∀ d ∈ ofNet n rs, WD d) ∧ WD (twoNet n rs) := by
  have h2 := hn.n2
  have h30 := hn.len
  have i1 : ∀ ms, OkZ ms (.int n) := fun ms => ok_int (by omega) (by omega) ms
  have i2 := ok_rows (m := 70) (ms := []) h2 hn.all (by omega)
  have i3 : OkZ [70, 6] (.tuple []) := okZ_tup (by simp) fun x m => (nomatch m)
  refine ⟨fun d m => ?_, wd_70 ?_⟩
  · simp only [ofNet, List.mem_cons, List.not_mem_nil, or_false] at m
    rcases m with rfl | rfl | rfl | rfl | rfl
    · refine wd_70 (okZ_tup (ds := [.int n, .tuple (rs.map Road.d)]) (by simp) fun x m => ?_)
      simp only [List.mem_cons, List.not_mem_nil, or_false] at m
      rcases m with rfl | rfl
      · exact i1 _
      · exact i2
    · refine wd_70 (okZ_lst (by simp) fun x m => ?_)
      simp only [List.mem_cons, List.not_mem_nil, or_false] at m
      rcases m with rfl | rfl
      · exact i1 _
      · exact i2
    · refine wd_70 (okZ_tup (by simp) fun x m => ?_)
      simp only [List.mem_cons, List.not_mem_nil, or_false] at m
      rcases m with rfl | rfl
      · exact i2
      · exact i1 _
    · refine wd_70 (okZ_tup (by simp) fun x m => ?_)
      simp only [List.mem_cons, List.not_mem_nil, or_false] at m
      rcases m with rfl | rfl | rfl
      · exact i1 _
      · exact i2
      · exact i3
    · exact wd_66 (ok_rows (m := 70) (ms := [6]) h2 hn.all (by omega))
  · have h60 : OkZ [70, 6] (.tuple (rs.map Road.d ++ rs.map Road.d)) := okZ_tup (by simp; omega) fun d m => by
      rcases List.mem_append.mp m with m | m <;>
      · obtain ⟨r, mr, rfl⟩ := List.mem_map.mp m
        exact ok_road h2 (hn.all r mr)
    refine okZ_tup (ds := [.int n, .tuple (rs.map Road.d ++ rs.map Road.d)]) (by simp) fun x m => ?_
    simp only [List.mem_cons, List.not_mem_nil, or_false] at m
    rcases m with rfl | rfl
    · exact i1 _
    · exact h60
theorem neStr {x : Str} {h : Hs} : gNe (.val (.str x)) (.val (.str x)) h = some (.bool false) := by
  have ok : eqOk (.str x) (.str x) = true := rfl
  show (if eqOk (.str x) (.str x) then some (PyData.bool (!PyData.eqv (.str x) (.str x))) else none) = _
  rw [if_pos ok, eqv_refl_str]
  rfl
theorem rep_bool (b : Bool) : ∃ x, ∀ h, gReprX [.val (.bool b)] h = some (.str x) := (show Kd (.bool b) by cases b <;> exact .rk 40 1 ⟨by decide +kernel, by simp [PyData.depth], by decide +kernel, by decide +kernel⟩ (by decide) (by decide)).rep
theorem l1_ {ns : List Int} {RO d : PyData} {EN : Option Sl} {h : Hs} (hd : lnN d) {y4 y5 y6 y7 y8 y9 y10 : Option Sl} : l_law_1 [some (.val (.list (ns.map .int))), some (.val (RO)), EN, some (.val (d)), y4, y5, y6, y7, y8, y9, y10] h = .next [some (.val (.list (ns.map .int))), some (.val (RO)), EN, some (.val (d)), y4, y5, y6, y7, y8, y9, y10] h := by
  obtain ⟨x, hx⟩ := rep_bool (netB d)
  have e1 := e_isNetA hd
  have e2 := e_lawIsNet hd
  unfold l_law_1
  simp [e1, e2, hx, neStr]
theorem l3_ {ns : List Int} {RO d : PyData} {EN : Option Sl} {h : Hs} (hd : WD d) {y4 y5 y6 y7 y8 : Option Sl} {y9 y10 : Option Sl} : ∃ z9 z10 : Option Sl, l_law_3 [some (.val (.list (ns.map .int))), some (.val (RO)), EN, some (.val (d)), y4, y5, y6, y7, y8, y9, y10] h = .next [some (.val (.list (ns.map .int))), some (.val (RO)), EN, some (.val (d)), y4, y5, y6, y7, y8, z9, z10] h := by
  obtain ⟨x, hx⟩ := rep_bool (netB d)
  obtain ⟨y, hy⟩ := hd.1.rep
  have e1 := e_isNetA hd.2
  have e2 := e_lawIsNet hd.2
  have e3 := e_refused hd.2
  refine ⟨some (.val (.str y)), some (.val (.bool (netB d))), ?_⟩
  unfold l_law_3
  cases q : netB d with
  | true =>
    rw [q] at e1 e2 hx
    simp [e1, e2, hx, hy, neStr]
  | false =>
    rw [q] at e1 e2 hx
    have e3 := e3 q
    simp [e1, e2, e3, hx, hy, neStr]
end FL
namespace FL
open PySem PySem.Spec PyProof.Rows L2 PySem.W
theorem v_addOV {n : Nat} {a b : List PyData} {h : Hs} (e : h[n]? = some (.lst a)) (hl : a.length + b.length ≤ 16777216) : gAdd (.loc n) (.val (.list b)) h = some (.list (a ++ b)) := by
  show (match litems (.loc n) h, litems (.val (.list b)) h with
    | some a, some b => if lineOk (a.length + b.length) then some (PyData.list (a ++ b)) else none
    | _, _ => none) = _
  have e1 : litems (.loc n) h = some a := by rw [v_liO, e]; rfl
  rw [e1, v_liL]
  dsimp only
  unfold lineOk
  rw [if_pos (decide_eq_true hl)]
theorem v_expMtO {m : GM} {f : Ev} {a : Av} {env : En} {h h1 h' : Hs} {s : Sl} {ss : List Sl} {ds : List PyData} {d : PyData} (e1 : f env h = .ok s h) (e2 : litems s h = some ds) (e3 : a env h = .ok ss h1) (e4 : m s ss h1 = some (d, h')) : sExp (eMt m f a) env h = .next env h' := by
  simp only [v_exp, v_mt, e1, v_bind, e2, e3, e4, Option.isSome_some, if_true, v_fl]
theorem call_at2 {m : Fm} {a b z : PyData} {A B : Ob} {s s' : Dr} {r : Hs} (e : callF m [true, false, false] false [.loc 0, .val a, .val b] [s.o] = .ok (.val z) [s'.o]) : callF m [true, false, false] false [.loc 2, .val a, .val b] (A :: B :: s.o :: r) = .ok (.val z) (A :: B :: s'.o :: r) := by
  have s0 : splitA [true, false, false] [.loc 0, .val a, .val b] [s.o] = some ([a, b], [0], [s.o], []) := rfl
  have s2 : splitA [true, false, false] [.loc 2, .val a, .val b] (A :: B :: s.o :: r) = some ([a, b], [2], [s.o], []) := rfl
  unfold callF at e ⊢
  rw [s0] at e
  rw [s2]
  dsimp only at e ⊢
  rw [if_pos ⟨rfl, .inl rfl⟩] at e
  rw [if_pos ⟨rfl, .inl rfl⟩]
  cases q : m [a, b] [s.o] with
  | ok z' os =>
    rw [q] at e
    dsimp only at e ⊢
    split at e
    · rename_i hv
      rw [if_pos hv]
      cases os with
      | nil =>
        injection e with e1 e2
        injection e1 with e1
        have e3 : s.o = s'.o := (List.cons.inj (show [s.o] = [s'.o] from e2)).1
        subst e1
        show Rz.ok (Sl.val z') (A :: B :: s.o :: r) = Rz.ok (Sl.val z') (A :: B :: s'.o :: r)
        rw [e3]
      | cons o1 os =>
        injection e with e1 e2
        injection e1 with e1
        have e3 : o1 = s'.o := (List.cons.inj (show [o1] = [s'.o] by cases os <;> exact e2)).1
        subst e1
        rw [← e3]
        cases os <;> rfl
    · cases e
  | _ => rw [q] at e; cases e
theorem call_at2n {m : Fm} {z : PyData} {A B : Ob} {s s' : Dr} {r : Hs} (e : callF m [true] false [.loc 0] [s.o] = .ok (.val z) [s'.o]) : callF m [true] false [.loc 2] (A :: B :: s.o :: r) = .ok (.val z) (A :: B :: s'.o :: r) := by
  have s0 : splitA [true] [.loc 0] [s.o] = some ([], [0], [s.o], []) := rfl
  have s2 : splitA [true] [.loc 2] (A :: B :: s.o :: r) = some ([], [2], [s.o], []) := rfl
  unfold callF at e ⊢
  rw [s0] at e
  rw [s2]
  dsimp only at e ⊢
  rw [if_pos ⟨rfl, .inl rfl⟩] at e
  rw [if_pos ⟨rfl, .inl rfl⟩]
  cases q : m [] [s.o] with
  | ok z' os =>
    rw [q] at e
    dsimp only at e ⊢
    split at e
    · rename_i hv
      rw [if_pos hv]
      cases os with
      | nil =>
        injection e with e1 e2
        injection e1 with e1
        have e3 : s.o = s'.o := (List.cons.inj (show [s.o] = [s'.o] from e2)).1
        subst e1
        show Rz.ok (Sl.val z') (A :: B :: s.o :: r) = Rz.ok (Sl.val z') (A :: B :: s'.o :: r)
        rw [e3]
      | cons o1 os =>
        injection e with e1 e2
        injection e1 with e1
        have e3 : o1 = s'.o := (List.cons.inj (show [o1] = [s'.o] by cases os <;> exact e2)).1
        subst e1
        rw [← e3]
        cases os <;> rfl
    · cases e
  | _ => rw [q] at e; cases e
/-- one turn: a thing more that is spoilt -/
theorem l2_ {ns : List Int} {RO : PyData} {EN : Option Sl} {k n : Nat} {rs : List Road} {s : Dr} {ds : List PyData} {A B : Ob} (hn : NetOk n rs) (hl : ds.length ≤ 1000) (hd : ∀ d ∈ ds, WD d) {y8 y9 y10 : Option Sl} {y3 : Option Sl} :
    Nx (l_law_2 [some (.val (.list (ns.map .int))), some (.val (RO)), EN, y3, some (.val (.int (k : Nat))), some (.loc 2), some (.val (netD n rs)), some (.loc 3), y8, y9, y10] [A, B, s.o, .lst ds]) fun e h => e = [some (.val (.list (ns.map .int))), some (.val (RO)), EN, y3, some (.val (.int (k : Nat))), some (.loc 2), some (.val (netD n rs)), some (.loc 3), y8, y9, y10] ∧ ∃ (d : PyData) (s' : Dr), WD d ∧ h = [A, B, s'.o, .lst (ds ++ [d])] := by
  have h2 := hn.n2
  have h30 := hn.len
  obtain ⟨x, s', hx, e⟩ := c_spoilt2 (W := [.int n, .tuple (rs.map Road.d)]) (s := s) (r := []) (fun d m => by
    simp only [List.mem_cons, List.not_mem_nil, or_false] at m
    rcases m with rfl | rfl
    · exact .inl (.inl ⟨_, rfl, by omega, by omega⟩)
    · refine .inr ⟨_, rfl, by rw [List.length_map]; omega, fun y my => ?_⟩
      obtain ⟨r, mr, rfl⟩ := List.mem_map.mp my
      have ok := hn.all r mr
      have o1 := ok.one
      have o2 := ok.other
      have o3 := ok.c2
      have o4 := ok.t
      refine .inr ⟨_, rfl, by simp, fun w mw => ?_⟩
      simp only [List.mem_cons, List.not_mem_nil, or_false] at mw
      rcases mw with rfl | rfl | rfl | rfl <;> exact .inl ⟨_, rfl, by omega, by omega⟩) (by simp)
  have e : callF m__law_spoilt [true, false, false] false [.loc 2, .val (netD n rs), .val (.int 2)] [A, B, s.o, .lst ds] = .ok (.val x) [A, B, s'.o, .lst ds] := call_at2 (r := [.lst ds]) e
  refine Nx.of (e := [some (.val (.list (ns.map .int))), some (.val (RO)), EN, y3, some (.val (.int (k : Nat))), some (.loc 2), some (.val (netD n rs)), some (.loc 3), y8, y9, y10]) (h := [A, B, s'.o, .lst (ds ++ [x])]) ?_ ⟨rfl, x, s', wd_46 hx, rfl⟩
  unfold l_law_2
  exact v_expMtO (h1 := [A, B, s'.o, .lst ds]) (s := .loc 3) (ss := [.val x]) (ds := ds) (d := .none) (by simp) rfl (by simp [e]) (v_appO (n := 3) (h := [A, B, s'.o, .lst ds]) rfl (by omega))
theorem c_odd2 {s : Dr} {r : Hs} : ∃ d s', WD d ∧ callF m__law_odd [true] false [.loc 0] (s.o :: r) = .ok (.val d) ((s' : Dr).o :: r) := by
  obtain ⟨d, s', m, e⟩ := c_oddA (s := s) (r := r)
  exact ⟨d, s', wd_odd m, e⟩
end FL
namespace FL
open PySem PySem.Spec PyProof.Rows L2 PySem.W
theorem l4_ {ns : List Int} {RO : PyData} {k : Nat} {A B : Ob} {y3 : PyData} {y5 y6 y7 y8 y9 y10 : Option Sl} :
    Nx (l_law_4 [some (.val (.list (ns.map .int))), some (.val (RO)), some (.loc 1), some (.val (y3)), some (.val (.int (k : Nat))), y5, y6, y7, y8, y9, y10] [A, B]) fun e h => ∃ (z3 : PyData) (y6 y7 y8 y9 y10 : Option Sl) (h' : Hs), e = [some (.val (.list (ns.map .int))), some (.val (RO)), some (.loc 1), some (.val (z3)), some (.val (.int (k : Nat))), some (.loc 2), y6, y7, y8, y9, y10] ∧ h = A :: B :: h' := by
  unfold l_law_4
  refine Nx.seqSet (s := .loc 2) (h1 := [A, B, (stOf (ns[k]?.getD 0)).o]) (by simp [c_state]) ?_
  obtain ⟨n, rs, s1, hn, h10, hr, en⟩ := c_netA (s := stOf (ns[k]?.getD 0)) (a := 10) (b := 30) (r := []) (by decide) (by decide)
  have en : callF m__law_net [true, false, false] false [.loc 2, .val (.int 10), .val (.int 30)] [A, B, (stOf (ns[k]?.getD 0)).o] = .ok (.val (netD n rs)) [A, B, s1.o] := call_at2 (r := []) en
  refine Nx.seqSet (s := .val (netD n rs)) (h1 := [A, B, s1.o]) (by simp [en]) ?_
  obtain ⟨od, s2, hod, eo⟩ := c_odd2 (s := s1) (r := [])
  have eo : callF m__law_odd [true] false [.loc 2] [A, B, s1.o] = .ok (.val od) [A, B, s2.o] := call_at2n (r := []) eo
  obtain ⟨wn, wt⟩ := wd_net hn
  have h30 := hn.len
  have ix0 : ∀ h : Hs, items (.val (netD n rs)) h = some [.int n, .tuple (rs.map Road.d)] := fun h => rfl
  have k1 : ∀ h, gRev (.val (netD n rs)) h = some (.tuple [.tuple (rs.map Road.d), .int n]) := fun h => rfl
  have k2 : ∀ h, gAdd (.val (netD n rs)) (.val (.tuple [.tuple []])) h = some (.tuple [.int n, .tuple (rs.map Road.d), .tuple []]) := fun h => v_addT (a := [.int n, .tuple (rs.map Road.d)]) (b := [.tuple []]) (by simp)
  have k3 : ∀ h, gMulE (.val (.tuple (rs.map Road.d))) (.val (.int 2)) h = some (.tuple (rs.map Road.d ++ rs.map Road.d)) := fun h => v_mulE (by rw [List.length_map]; omega)
  have wl : ∀ d ∈ ofNet n rs ++ [od, twoNet n rs], WD d := fun d m => by
    rcases List.mem_append.mp m with m | m
    · exact wn d m
    · simp only [List.mem_cons, List.not_mem_nil, or_false] at m
      rcases m with rfl | rfl
      · exact hod
      · exact wt
  obtain ⟨D0, hD0⟩ : ∃ D0, D0 = ofNet n rs ++ [od, twoNet n rs] := ⟨_, rfl⟩
  have eD : D0 = [netD n rs, .list [.int n, .tuple (rs.map Road.d)], .tuple [.tuple (rs.map Road.d), .int n], .tuple [.int n, .tuple (rs.map Road.d), .tuple []], .tuple (rs.map Road.d), od, .tuple [.int n, .tuple (rs.map Road.d ++ rs.map Road.d)]] := hD0
  rw [← hD0] at wl
  refine Nx.seqEq (e1 := [some (.val (.list (ns.map .int))), some (.val (RO)), some (.loc 1), some (.val (y3)), some (.val (.int (k : Nat))), some (.loc 2), some (.val (netD n rs)), some (.loc 3), y8, y9, y10]) (h1 := [A, B, s2.o, .lst D0]) (by
    rw [eD]
    generalize rs.map Road.d = RD at *
    simp [ix0, k1, k2, k3, eo, line_s, v_line, v_new1]) ?_
  refine Nx.seq (A := fun e h => ∃ (ds : List PyData) (s' : Dr) (y8 y9 y10 : Option Sl), (∀ d ∈ ds, WD d) ∧ e = [some (.val (.list (ns.map .int))), some (.val (RO)), some (.loc 1), some (.val (y3)), some (.val (.int (k : Nat))), some (.loc 2), some (.val (netD n rs)), some (.loc 3), y8, y9, y10] ∧ h = [A, B, s'.o, .lst ds]) ?_ ?_
  · refine (Nx.forR (ds := upTo 0 14) (h1 := [A, B, s2.o, .lst D0]) (I := fun rest e h => ∃ (ds : List PyData) (s' : Dr) (y8 y9 y10 : Option Sl), (∀ d ∈ ds, WD d) ∧ ds.length + rest.length ≤ 100 ∧ e = [some (.val (.list (ns.map .int))), some (.val (RO)), some (.loc 1), some (.val (y3)), some (.val (.int (k : Nat))), some (.loc 2), some (.val (netD n rs)), some (.loc 3), y8, y9, y10] ∧ h = [A, B, s'.o, .lst ds]) (by
      simp
      rw [v_rng1 (by decide) (by decide)]
      rfl) ⟨D0, s2, _, _, _, wl, by rw [eD]; simp [upTo], rfl, rfl⟩ ?_).mono ?_
    · rintro d rest _ _ ⟨ds, s', y8, y9, y10, hd, hl, rfl, rfl⟩
      rw [List.length_cons] at hl
      refine ⟨_, by simp; rfl, ?_⟩
      refine (l2_ hn (by omega) hd).mono ?_
      rintro _ _ ⟨rfl, d2, s3, h2', rfl⟩
      refine ⟨ds ++ [d2], s3, _, _, _, fun x m => (List.mem_append.mp m).elim (hd x) fun m => by rw [List.mem_singleton.mp m]; exact h2', by rw [List.length_append, List.length_singleton]; omega, rfl, rfl⟩
    · rintro _ _ ⟨ds, s', y8, y9, y10, hd, _, rfl, rfl⟩
      exact ⟨ds, s', _, _, _, hd, rfl, rfl⟩
  rintro _ _ ⟨ds, s', y8, y9, y10, hd, rfl, rfl⟩
  have ez : ∃ e' : En, frz? 0 7 [some (.val (.list (ns.map .int))), some (.val (RO)), some (.loc 1), some (.val (y3)), some (.val (.int (k : Nat))), some (.loc 2), some (.val (netD n rs)), some (.loc 3), y8, y9, y10] [A, B, s'.o, .lst ds] = some (e', [A, B, s'.o, .gone]) ∧ ∃ y8 y9 y10 : Option Sl, e' = [some (.val (.list (ns.map .int))), some (.val (RO)), some (.loc 1), some (.val (y3)), some (.val (.int (k : Nat))), some (.loc 2), some (.val (netD n rs)), some (.val (.list ds)), y8, y9, y10] := ⟨_, rfl, _, _, _, rfl⟩
  obtain ⟨e', ez, y8, y9, y10, rfl⟩ := ez
  unfold sFrz
  rw [ez]
  refine (Nx.for_ (ds := ds) (h1 := [A, B, s'.o, .gone]) (I := fun e h => ∃ (z3 : PyData) (y8 y9 y10 : Option Sl), e = [some (.val (.list (ns.map .int))), some (.val (RO)), some (.loc 1), some (.val (z3)), some (.val (.int (k : Nat))), some (.loc 2), some (.val (netD n rs)), some (.val (.list ds)), y8, y9, y10] ∧ h = [A, B, s'.o, .gone]) (by simp) ⟨y3, _, _, _, rfl, rfl⟩ ?_).mono ?_
  · rintro d md _ _ ⟨z3, y8, y9, y10, rfl, rfl⟩
    refine ⟨[some (.val (.list (ns.map .int))), some (.val (RO)), some (.loc 1), some (.val (d)), some (.val (.int (k : Nat))), some (.loc 2), some (.val (netD n rs)), some (.val (.list ds)), y8, y9, y10], by simp, ?_⟩
    obtain ⟨z9, z10, e⟩ := l3_ (ns := ns) (RO := RO) (EN := some (.loc 1)) (h := [A, B, s'.o, .gone]) (hd d md) (y4 := some (.val (.int (k : Nat)))) (y5 := some (.loc 2)) (y6 := some (.val (netD n rs))) (y7 := some (.val (.list ds))) (y8 := y8) (y9 := y9) (y10 := y10)
    exact Nx.of e ⟨d, _, _, _, rfl, rfl⟩
  · rintro _ _ ⟨z3, y8, y9, y10, rfl, rfl⟩
    exact ⟨z3, _, _, _, _, _, _, rfl, rfl⟩
def roC : PyData := .tuple [.int 0, .int 1, .int 1, .int 0]
def kC7 : List PyData := [.tuple [.int 1, .tuple []], .tuple [.int 10, .tuple []], .tuple [.int 11, .tuple []], .tuple [.int 0, .tuple []], .tuple [.int 2, .tuple (List.replicate 30 roC)], .tuple [.int 2, .tuple (List.replicate 31 roC)], .tuple [.int 2, .tuple [.tuple [.int 0, .int 0, .int 1, .int 0]]]]
def kC8 : PyData := .tuple [.int 1, .tuple [roC]]
def kC4 : List PyData := [.tuple [.int 2, .tuple [.tuple [.int 0, .int 1, .int 0, .int 0]]], .tuple [.int 2, .tuple [.tuple [.int 0, .int 1, .int 100, .int 0]]], .tuple [.int 2, .tuple [.tuple [.int 0, .int 1, .int 99, .int 99]]], .tuple [.int 2, .tuple [.tuple [.int 0, .int 1, .int 1, .int 100]]]]
def kC5 : List PyData := [.tuple [.int 2, .tuple [.tuple [.int 0, .int 2, .int 1, .int 0]]], .tuple [.int 2, .list [roC]], .tuple [.bool true, .tuple []], .tuple [.int 2, .tuple [.tuple [.int 0, .bool true, .int 1, .int 0]]], .tuple [.int 2, .tuple [.tuple [.int 0, .int 1, .int 1]]]]
theorem cs_ln : ∀ d ∈ (kC7 ++ [kC8]) ++ kC4 ++ kC5, lnN d := fun d m => lnNB_ok (List.all_eq_true.mp (show ((kC7 ++ [kC8]) ++ kC4 ++ kC5).all lnNB = true by decide +kernel) d m)
theorem law_true : ∀ ns : List Int, ns.length ≤ 63 → ∃ h', m_law [.list (ns.map PyData.int)] [] = .ok (.bool true) h' := by
  intro ns _
  have key := run_ex (fr := false) (io := [false]) (nl := 10) (p := b_law) (ds := [.list (ns.map PyData.int)]) (os := []) (P := fun d h => d = .bool true) ?_
  · obtain ⟨d, h', e, rfl⟩ := key
    exact ⟨h', e⟩
  have e0 : mkEnv [false] [.list (ns.map PyData.int)] 0 ++ List.replicate 10 none = [some (.val (.list (ns.map .int))), none, none, none, none, none, none, none, none, none, none] := rfl
  rw [e0]
  unfold b_law
  obtain ⟨RO, hRO⟩ : ∃ RO, RO = roC := ⟨_, rfl⟩
  have eRO : RO = .tuple [.int 0, .int 1, .int 1, .int 0] := hRO
  refine Out.seqEq (e1 := [some (.val (.list (ns.map .int))), some (.val (RO)), none, none, none, none, none, none, none, none, none]) (h1 := []) (by rw [eRO]; simp [v_line]) ?_
  have m30 : ∀ h, gMul (.val (.tuple [RO])) (.val (.int 30)) h = some (.tuple (List.replicate 30 RO)) := fun h => by
    have := v_mulT (a := [RO]) (k := 30) (h := h) (by simp) (by decide) (by decide) (by simp)
    simpa using this
  have m31 : ∀ h, gMul (.val (.tuple [RO])) (.val (.int 31)) h = some (.tuple (List.replicate 31 RO)) := fun h => by
    have := v_mulT (a := [RO]) (k := 31) (h := h) (by simp) (by decide) (by decide) (by simp)
    simpa using this
  obtain ⟨R30, h30⟩ : ∃ R, R = List.replicate 30 RO := ⟨_, rfl⟩
  obtain ⟨R31, h31⟩ : ∃ R, R = List.replicate 31 RO := ⟨_, rfl⟩
  rw [← h30] at m30
  rw [← h31] at m31
  obtain ⟨D7, h7⟩ : ∃ D7, D7 = kC7 := ⟨_, rfl⟩
  have e7 : D7 = [.tuple [.int 1, .tuple []], .tuple [.int 10, .tuple []], .tuple [.int 11, .tuple []], .tuple [.int 0, .tuple []], .tuple [.int 2, .tuple R30], .tuple [.int 2, .tuple R31], .tuple [.int 2, .tuple [.tuple [.int 0, .int 0, .int 1, .int 0]]]] := by
    rw [h7, h30, h31, hRO]
    rfl
  refine Out.seqEq (e1 := [some (.val (.list (ns.map .int))), some (.val (RO)), some (.loc 0), none, none, none, none, none, none, none, none]) (h1 := [.lst D7]) (by rw [e7]; simp [v_line, v_new1, m30, m31]) ?_
  obtain ⟨D8, h8⟩ : ∃ D8, D8 = kC8 := ⟨_, rfl⟩
  have e8 : D8 = .tuple [.int 1, .tuple [RO]] := by rw [h8, hRO]; rfl
  have l7 : D7.length = 7 := by rw [h7]; rfl
  refine Out.seqEq (e1 := [some (.val (.list (ns.map .int))), some (.val (RO)), some (.loc 0), none, none, none, none, none, none, none, none]) (h1 := [.lst (D7 ++ [D8])]) (v_expMtO (h1 := [.lst D7]) (s := .loc 0) (ss := [.val D8]) (ds := D7) (d := .none) (by simp) rfl (by rw [e8]; simp [v_line]) (v_appO (n := 0) (h := [.lst D7]) rfl (by omega))) ?_
  obtain ⟨D4, h4⟩ : ∃ D4, D4 = kC4 := ⟨_, rfl⟩
  have e4 : D4 = [.tuple [.int 2, .tuple [.tuple [.int 0, .int 1, .int 0, .int 0]]], .tuple [.int 2, .tuple [.tuple [.int 0, .int 1, .int 100, .int 0]]], .tuple [.int 2, .tuple [.tuple [.int 0, .int 1, .int 99, .int 99]]], .tuple [.int 2, .tuple [.tuple [.int 0, .int 1, .int 1, .int 100]]]] := h4
  have ct : cat? (.loc 0) (.val (.list D4)) [.lst (D7 ++ [D8])] = .ok (.loc 1) [.lst (D7 ++ [D8]), .lst ((D7 ++ [D8]) ++ D4)] := by
    have l4 : D4.length = 4 := by rw [h4]; rfl
    show (match litems (.loc 0) [Ob.lst (D7 ++ [D8])], litems (.val (.list D4)) [Ob.lst (D7 ++ [D8])] with
      | some a, some b => if lineOk (a.length + b.length) then Rz.ok (Sl.loc 1) ([Ob.lst (D7 ++ [D8])] ++ [Ob.lst (a ++ b)]) else .bad
      | _, _ => .bad) = _
    show (if lineOk ((D7 ++ [D8]).length + D4.length) then Rz.ok (Sl.loc 1) ([Ob.lst (D7 ++ [D8])] ++ [Ob.lst ((D7 ++ [D8]) ++ D4)]) else .bad) = _
    rw [if_pos (by unfold lineOk; exact decide_eq_true (by rw [List.length_append, l7, l4]; simp))]
    rfl
  have el : ∀ (env : En) (h : Hs), eLst (aCons (eTup (aCons (eK (.int 2)) (aCons (eTup (aCons (eTup (aCons (eK (.int 0)) (aCons (eK (.int 1)) (aCons (eK (.int 0)) (aCons (eK (.int 0)) aNil))))) aNil)) aNil))) (aCons (eTup (aCons (eK (.int 2)) (aCons (eTup (aCons (eTup (aCons (eK (.int 0)) (aCons (eK (.int 1)) (aCons (eK (.int 100)) (aCons (eK (.int 0)) aNil))))) aNil)) aNil))) (aCons (eTup (aCons (eK (.int 2)) (aCons (eTup (aCons (eTup (aCons (eK (.int 0)) (aCons (eK (.int 1)) (aCons (eK (.int 99)) (aCons (eK (.int 99)) aNil))))) aNil)) aNil))) (aCons (eTup (aCons (eK (.int 2)) (aCons (eTup (aCons (eTup (aCons (eK (.int 0)) (aCons (eK (.int 1)) (aCons (eK (.int 1)) (aCons (eK (.int 100)) aNil))))) aNil)) aNil))) aNil)))) env h = .ok (.val (.list D4)) h := fun env h => by
    rw [e4]
    simp [v_line]
  refine Out.seqEq (e1 := [some (.val (.list (ns.map .int))), some (.val (RO)), some (.loc 1), none, none, none, none, none, none, none, none]) (h1 := [.lst (D7 ++ [D8]), .lst ((D7 ++ [D8]) ++ D4)]) (by
    generalize hX : (D7 ++ [D8]) ++ D4 = X at *
    generalize hY : D7 ++ [D8] = Y at *
    simp only [v_set, v_catN, el, v_bind]
    simp [ct]) ?_
  obtain ⟨D5, h5⟩ : ∃ D5, D5 = kC5 := ⟨_, rfl⟩
  have e5 : D5 = [.tuple [.int 2, .tuple [.tuple [.int 0, .int 2, .int 1, .int 0]]], .tuple [.int 2, .list [RO]], .tuple [.bool true, .tuple []], .tuple [.int 2, .tuple [.tuple [.int 0, .bool true, .int 1, .int 0]]], .tuple [.int 2, .tuple [.tuple [.int 0, .int 1, .int 1]]]] := by
    rw [h5, hRO]
    rfl
  have wl : ∀ d ∈ (D7 ++ [D8]) ++ D4 ++ D5, lnN d := by
    rw [h7, h8, h4, h5]
    exact cs_ln
  have ll : ((D7 ++ [D8]) ++ D4).length = 12 ∧ D5.length = 5 := by
    rw [h7, h8, h4, h5]
    exact ⟨rfl, rfl⟩
  obtain ⟨X, hX⟩ : ∃ X, X = (D7 ++ [D8]) ++ D4 := ⟨_, rfl⟩
  obtain ⟨Y, hY⟩ : ∃ Y, Y = D7 ++ [D8] := ⟨_, rfl⟩
  rw [← hX] at wl ll ⊢
  rw [← hY]
  have ga := v_addOV (n := 1) (a := X) (b := D5) (h := [.lst Y, .lst X]) rfl (by omega)
  refine Out.seq (A := fun e h => ∃ (z3 : PyData) (y4 y5 y6 y7 y8 y9 y10 : Option Sl), e = [some (.val (.list (ns.map .int))), some (.val (RO)), some (.loc 1), some (.val (z3)), y4, y5, y6, y7, y8, y9, y10] ∧ h = [.lst Y, .lst X]) ?_ ?_
  · refine (Out.of_nx (Nx.forR (ds := X ++ D5) (h1 := [.lst Y, .lst X]) (I := fun rest e h => ∃ (z3 : Option Sl) (y4 y5 y6 y7 y8 y9 y10 : Option Sl), (rest = X ++ D5 ∨ ∃ d, z3 = some (.val d)) ∧ (∀ d ∈ rest, lnN d) ∧ e = [some (.val (.list (ns.map .int))), some (.val (RO)), some (.loc 1), z3, y4, y5, y6, y7, y8, y9, y10] ∧ h = [.lst Y, .lst X]) (by
      rw [e5] at ga ⊢
      simp [v_line, ga]) ⟨none, _, _, _, _, _, _, _, .inl rfl, wl, rfl, rfl⟩ ?_)).mono ?_ (fun _ _ z => z)
    · rintro d rest _ _ ⟨z3, y4, y5, y6, y7, y8, y9, y10, _, hr, rfl, rfl⟩
      refine ⟨[some (.val (.list (ns.map .int))), some (.val (RO)), some (.loc 1), some (.val (d)), y4, y5, y6, y7, y8, y9, y10], by simp, ?_⟩
      exact Nx.of (l1_ (EN := some (.loc 1)) (hr d List.mem_cons_self)) ⟨_, _, _, _, _, _, _, _, .inr ⟨d, rfl⟩, fun x m => hr x (List.mem_cons_of_mem _ m), rfl, rfl⟩
    · rintro _ _ ⟨z3, y4, y5, y6, y7, y8, y9, y10, hz, _, rfl, rfl⟩
      rcases hz with hz | ⟨d, rfl⟩
      · have := congrArg List.length hz
        rw [List.length_append] at this
        simp at this
        omega
      · exact ⟨d, _, _, _, _, _, _, _, rfl, rfl⟩
  rintro _ _ ⟨z3, y4, y5, y6, y7, y8, y9, y10, rfl, rfl⟩
  refine Out.seq (A := fun e h => True) ?_ ?_
  · refine (Out.of_nx (Nx.for_ (ds := upTo 0 (max 1 (min (ns.length : Int) 4)).toNat) (h1 := [.lst Y, .lst X]) (I := fun e h => ∃ (z3 : PyData) (y4 y5 y6 y7 y8 y9 y10 : Option Sl), e = [some (.val (.list (ns.map .int))), some (.val (RO)), some (.loc 1), some (.val (z3)), y4, y5, y6, y7, y8, y9, y10] ∧ h = [.lst Y, .lst X]) (by
      simp
      rw [v_rng1 (by omega) (by omega)]) ⟨z3, _, _, _, _, _, _, _, rfl, rfl⟩ (by
      rintro d hd _ _ ⟨z3, y4, y5, y6, y7, y8, y9, y10, rfl, rfl⟩
      obtain ⟨k, hk, rfl⟩ := List.mem_map.mp (show d ∈ (List.range (max 1 (min (ns.length : Int) 4)).toNat).map fun (k : Nat) => PyData.int (0 + (k : Int)) from hd)
      refine ⟨_, by simp; rfl, ?_⟩
      refine l4_.mono ?_
      rintro _ _ ⟨z3, y6, y7, y8, y9, y10, h', rfl, rfl⟩
      exact ⟨z3, _, _, _, _, _, _, _, rfl, by simp⟩))).mono (fun _ _ _ => trivial) (fun _ _ z => z)
  · intro env hh _
    exact Out.ret (s := .val (.bool true)) (h := hh) (by simp) ⟨_, _, v_outV, rfl⟩
end FL
namespace FL
open PySem PySem.Spec PyProof.Rows L2
def topS (i : Nat) : Stmt := PySem.Challenge.pw_waysranked_k01_nets_known.main.body.getD i (.Pass ⟨0, 0, 0, 0⟩)
structure Tx (K : PySem.W.Frag) (mg : Str → Option Value) : Prop where
  n_all : mg "all" = none
  n_bool : mg "bool" = none
  n_int : mg "int" = none
  n_isinstance : mg "isinstance" = none
  n_len : mg "len" = none
  n_list : mg "list" = none
  n_max : mg "max" = none
  n_min : mg "min" = none
  n_range : mg "range" = none
  n_repr : mg "repr" = none
  n_set : mg "set" = none
  n_sum : mg "sum" = none
  n_tuple : mg "tuple" = none
  n_zip : mg "zip" = none
  c_MOST_COST : ∃ t, mg "MOST_COST" = some (.int 99 t)
  c_MOST_PLACES : ∃ t, mg "MOST_PLACES" = some (.int 10 t)
  c_MOST_ROADS : ∃ t, mg "MOST_ROADS" = some (.int 30 t)
  c_MOST_TIME : ∃ t, mg "MOST_TIME" = some (.int 99 t)
  x_NoNet : ∃ c, ExCls K mg "NoNet" c
  x_NoPlace : ∃ c, ExCls K mg "NoPlace" c
  x_NoShut : ∃ c, ExCls K mg "NoShut" c
/-- a def that keeps its promise -/
structure Cal (P : Program) (w : World) (K : PySem.W.Frag) (mg : Str → Option Value) (base : Heap) (x : Str) (k : Nat) (ps : List Str) (sp : Sp) : Prop where
  ex : ∃ (f : Addr) (fd : FuncData), FnG P w K mg base (L2.CX P w) k f fd ps sp ∧ mg x = some (.ref f) ∧ PySem.W.keepIn K (.ref f) = true ∧ Binds K fd ps []
section
variable {P : Program} {w : World} {K : PySem.W.Frag} {mg : Str → Option Value} {base : Heap} {TT : List (Addr × Str)}
abbrev s_is_among : Stmt := topS 22
abbrev N_is_among : List Str := ["thing", "least", "most"]
theorem sc_is_among : FnScope N_is_among ["thing", "least", "most"] (defScope s_is_among) := ⟨rfl, rfl, rfl, by decide +kernel, rfl, by decide +kernel, by decide +kernel⟩
abbrev Q_is_among (P : Program) (w : World) (K : PySem.W.Frag) (mg : Str → Option Value) (base : Heap) (TT : List (Addr × Str)) : Prop := Cal P w K mg base "is_among" 1 ["thing", "least", "most"] (spOf K mg TT false [false, false, false] m_is_among)
theorem own_is_among {f : Addr} {fd : FuncData} (T : Tx K mg) (F : Fun K "is_among" "is_among" s_is_among f fd) : FnG P w K mg base (L2.CX P w) 1 f fd ["thing", "least", "most"] (spOf K mg TT false [false, false, false] m_is_among) := by
  refine fnD false [false, false, false] F sc_is_among rfl ?_
  intro cdv hcv A outer s H E C hT hW hgd hr
  have tk := takes_of (X := cxOf (L2.CX P w) P w K mg base N_is_among "is_among" (defScope s_is_among) f cdv A outer s H E) (E := E) rfl rfl rfl rfl
  have hp := passes_of (X := cxOf (L2.CX P w) P w K mg base N_is_among "is_among" (defScope s_is_among) f cdv A outer s H E) rfl
  exact (fss_one (fs_ret (fe_and (fe_isa (c := "int") (by decide) (by rfl) T.n_isinstance (by rfl) T.n_int (by decide +kernel) (fe_var 0)) (fe_and (fe_not (fe_isa (c := "bool") (by decide) (by rfl) T.n_isinstance (by rfl) T.n_bool (by decide +kernel) (fe_var 0))) (fe_one (fe_chain o_le o_le (fe_var 1) (fe_var 0) (fe_var 2)))))))
theorem ok_is_among {f : Addr} {fd : FuncData} (T : Tx K mg) (F : Fun K "is_among" "is_among" s_is_among f fd) (hm : mg "is_among" = some (.ref f)) : Q_is_among P w K mg base TT :=
  ⟨⟨f, fd, own_is_among T F, hm, F.kp, F.binds fun _ _ _ _ _ _ us hl => match us, hl with | [_, _, _], _ => rfl⟩⟩
abbrev s_is_whole : Stmt := topS 23
abbrev N_is_whole : List Str := ["thing"]
theorem sc_is_whole : FnScope N_is_whole ["thing"] (defScope s_is_whole) := ⟨rfl, rfl, rfl, by decide +kernel, rfl, by decide +kernel, by decide +kernel⟩
abbrev Q_is_whole (P : Program) (w : World) (K : PySem.W.Frag) (mg : Str → Option Value) (base : Heap) (TT : List (Addr × Str)) : Prop := Cal P w K mg base "is_whole" 1 ["thing"] (spOf K mg TT false [false] m_is_whole)
theorem own_is_whole {f : Addr} {fd : FuncData} (T : Tx K mg) (F : Fun K "is_whole" "is_whole" s_is_whole f fd) : FnG P w K mg base (L2.CX P w) 1 f fd ["thing"] (spOf K mg TT false [false] m_is_whole) := by
  refine fnD false [false] F sc_is_whole rfl ?_
  intro cdv hcv A outer s H E C hT hW hgd hr
  have tk := takes_of (X := cxOf (L2.CX P w) P w K mg base N_is_whole "is_whole" (defScope s_is_whole) f cdv A outer s H E) (E := E) rfl rfl rfl rfl
  have hp := passes_of (X := cxOf (L2.CX P w) P w K mg base N_is_whole "is_whole" (defScope s_is_whole) f cdv A outer s H E) rfl
  exact (fss_one (fs_ret (fe_and (fe_isa (c := "int") (by decide) (by rfl) T.n_isinstance (by rfl) T.n_int (by decide +kernel) (fe_var 0)) (fe_one (fe_not (fe_isa (c := "bool") (by decide) (by rfl) T.n_isinstance (by rfl) T.n_bool (by decide +kernel) (fe_var 0)))))))
theorem ok_is_whole {f : Addr} {fd : FuncData} (T : Tx K mg) (F : Fun K "is_whole" "is_whole" s_is_whole f fd) (hm : mg "is_whole" = some (.ref f)) : Q_is_whole P w K mg base TT :=
  ⟨⟨f, fd, own_is_whole T F, hm, F.kp, F.binds fun _ _ _ _ _ _ us hl => match us, hl with | [_], _ => rfl⟩⟩
abbrev s_are_rising : Stmt := topS 24
abbrev N_are_rising : List Str := ["row", "one", "other"]
theorem sc_are_rising : FnScope N_are_rising ["row"] (defScope s_are_rising) := ⟨rfl, rfl, rfl, by decide +kernel, rfl, by decide +kernel, by decide +kernel⟩
abbrev Q_are_rising (P : Program) (w : World) (K : PySem.W.Frag) (mg : Str → Option Value) (base : Heap) (TT : List (Addr × Str)) : Prop := Cal P w K mg base "are_rising" 1 ["row"] (spOf K mg TT false [false] m_are_rising)
theorem own_are_rising {f : Addr} {fd : FuncData} (T : Tx K mg) (F : Fun K "are_rising" "are_rising" s_are_rising f fd) : FnG P w K mg base (L2.CX P w) 1 f fd ["row"] (spOf K mg TT false [false] m_are_rising) := by
  refine fnD false [false] F sc_are_rising rfl ?_
  intro cdv hcv A outer s H E C hT hW hgd hr
  have tk := takes_of (X := cxOf (L2.CX P w) P w K mg base N_are_rising "are_rising" (defScope s_are_rising) f cdv A outer s H E) (E := E) rfl rfl rfl rfl
  have hp := passes_of (X := cxOf (L2.CX P w) P w K mg base N_are_rising "are_rising" (defScope s_are_rising) f cdv A outer s H E) rfl
  exact (fss_one (fs_ret (fe_callB (c_all rfl) (by rfl) T.n_all (by decide +kernel) (fa_cons (fe_comp (own := [("one", 1), ("other", 2)]) rfl sc_are_rising.nd (fi_zip2 (by rfl) T.n_zip (fa_cons (fe_var 0) (fa_cons (fe_slice (fe_var 0) (fo_some fe_int) fo_none) fa_nil))) (blkOk_by (own := [("one", 1), ("other", 2)]) (N := N_are_rising) (sc := defScope s_are_rising) (by decide +kernel)) (fun _ _ _ _ _ => (fg_tp rfl (fgs_cons (fg_nm sc_are_rising.nd rfl (by first | exact Or.inl rfl | exact Or.inr rfl)) (fgs_cons (fg_nm sc_are_rising.nd rfl (by first | exact Or.inl rfl | exact Or.inr rfl)) fgs_nil)))) (fun _ hT1 _ _ _ _ _ => fts_nil) (fun _ hT1 _ _ _ _ _ => (fe_cmp o_lt (fe_var 1) (fe_var 2) (nomark _)))) fa_nil))))
theorem ok_are_rising {f : Addr} {fd : FuncData} (T : Tx K mg) (F : Fun K "are_rising" "are_rising" s_are_rising f fd) (hm : mg "are_rising" = some (.ref f)) : Q_are_rising P w K mg base TT :=
  ⟨⟨f, fd, own_are_rising T F, hm, F.kp, F.binds fun _ _ _ _ _ _ us hl => match us, hl with | [_], _ => rfl⟩⟩
abbrev s_are_unlike : Stmt := topS 25
abbrev N_are_unlike : List Str := ["some"]
theorem sc_are_unlike : FnScope N_are_unlike ["some"] (defScope s_are_unlike) := ⟨rfl, rfl, rfl, by decide +kernel, rfl, by decide +kernel, by decide +kernel⟩
abbrev Q_are_unlike (P : Program) (w : World) (K : PySem.W.Frag) (mg : Str → Option Value) (base : Heap) (TT : List (Addr × Str)) : Prop := Cal P w K mg base "are_unlike" 1 ["some"] (spOf K mg TT false [false] m_are_unlike)
theorem own_are_unlike {f : Addr} {fd : FuncData} (T : Tx K mg) (F : Fun K "are_unlike" "are_unlike" s_are_unlike f fd) : FnG P w K mg base (L2.CX P w) 1 f fd ["some"] (spOf K mg TT false [false] m_are_unlike) := by
  refine fnD false [false] F sc_are_unlike rfl ?_
  intro cdv hcv A outer s H E C hT hW hgd hr
  have tk := takes_of (X := cxOf (L2.CX P w) P w K mg base N_are_unlike "are_unlike" (defScope s_are_unlike) f cdv A outer s H E) (E := E) rfl rfl rfl rfl
  have hp := passes_of (X := cxOf (L2.CX P w) P w K mg base N_are_unlike "are_unlike" (defScope s_are_unlike) f cdv A outer s H E) rfl
  exact (fss_one (fs_ret (fe_cmp (o_eq hr.units) (fe_lenSet rfl (by rfl) T.n_len (by rfl) T.n_set (fe_var 0)) (fe_callB c_len (by rfl) T.n_len (by decide +kernel) (fa_cons (fe_var 0) fa_nil)) (nomark _))))
theorem ok_are_unlike {f : Addr} {fd : FuncData} (T : Tx K mg) (F : Fun K "are_unlike" "are_unlike" s_are_unlike f fd) (hm : mg "are_unlike" = some (.ref f)) : Q_are_unlike P w K mg base TT :=
  ⟨⟨f, fd, own_are_unlike T F, hm, F.kp, F.binds fun _ _ _ _ _ _ us hl => match us, hl with | [_], _ => rfl⟩⟩
abbrev s_is_road : Stmt := topS 31
abbrev N_is_road : List Str := ["thing", "places", "one", "other", "cost", "time", "end"]
theorem sc_is_road : FnScope N_is_road ["thing", "places"] (defScope s_is_road) := ⟨rfl, rfl, rfl, by decide +kernel, rfl, by decide +kernel, by decide +kernel⟩
abbrev Q_is_road (P : Program) (w : World) (K : PySem.W.Frag) (mg : Str → Option Value) (base : Heap) (TT : List (Addr × Str)) : Prop := Cal P w K mg base "is_road" 2 ["thing", "places"] (spOf K mg TT false [false, false] m_is_road)
theorem own_is_road {f : Addr} {fd : FuncData} (T : Tx K mg) (g_is_among : Q_is_among P w K mg base TT) (F : Fun K "is_road" "is_road" s_is_road f fd) : FnG P w K mg base (L2.CX P w) 2 f fd ["thing", "places"] (spOf K mg TT false [false, false] m_is_road) := by
  obtain ⟨f_is_among, fd_is_among, G_is_among, mg_is_among, kp_is_among, b_is_among⟩ := g_is_among.ex
  refine fnD false [false, false] F sc_is_road rfl ?_
  intro cdv hcv A outer s H E C hT hW hgd hr
  have tk := takes_of (X := cxOf (L2.CX P w) P w K mg base N_is_road "is_road" (defScope s_is_road) f cdv A outer s H E) (E := E) rfl rfl rfl rfl
  have hp := passes_of (X := cxOf (L2.CX P w) P w K mg base N_is_road "is_road" (defScope s_is_road) f cdv A outer s H E) rfl
  exact (fss_cons (fs_if (ft_w (fw_or (ft_not (ft_val (fe_isa (c := "tuple") (by decide) (by rfl) T.n_isinstance (by rfl) T.n_tuple (by decide +kernel) (fe_var 0)))) (fw_or (ft_cmp (o_ne hr.units) (fe_callB c_len (by rfl) T.n_len (by decide +kernel) (fa_cons (fe_var 0) fa_nil)) fe_int (nomark _)) (fw_or1 (ft_not (ft_val (fe_callB (c_all rfl) (by rfl) T.n_all (by decide +kernel) (fa_cons (fe_comp (own := [("end", 6)]) rfl sc_is_road.nd (fi_seq (fe_slice (fe_var 0) fo_none (fo_some fe_int))) (blkOk_by (own := [("end", 6)]) (N := N_is_road) (sc := defScope s_is_road) (by decide +kernel)) (fun _ _ _ _ _ => (fg_nm sc_is_road.nd rfl (by first | exact Or.inl rfl | exact Or.inr rfl))) (fun _ hT1 _ _ _ _ _ => fts_nil) (fun _ hT1 _ _ _ _ _ => (fe_call G_is_among (hT1.trans hT) hgd (hr.mono (by decide : 1 ≤ 1)) takes0 (by rfl) mg_is_among kp_is_among b_is_among (fa_cons (fe_var 6) (fa_cons fe_int (fa_cons (fe_op o_sub (fe_var 1) fe_int) fa_nil)))))) fa_nil)))))))) (fss_one (fs_ret fe_bl)) fss_nil)
      (fss_cons (fs_asg (fe_var 0) (fg_tp rfl (fgs_cons (fg_nm sc_is_road.nd rfl (by first | exact Or.inl rfl | exact Or.inr rfl)) (fgs_cons (fg_nm sc_is_road.nd rfl (by first | exact Or.inl rfl | exact Or.inr rfl)) (fgs_cons (fg_nm sc_is_road.nd rfl (by first | exact Or.inl rfl | exact Or.inr rfl)) (fgs_cons (fg_nm sc_is_road.nd rfl (by first | exact Or.inl rfl | exact Or.inr rfl)) fgs_nil))))))
      (fss_one (fs_ret (fe_and (fe_cmp (o_ne hr.units) (fe_var 2) (fe_var 3) (nomark _)) (fe_and (fe_call G_is_among hT hgd (hr.mono (by decide : 1 ≤ 1)) tk (by rfl) mg_is_among kp_is_among b_is_among (fa_cons (fe_var 4) (fa_cons fe_int (fa_cons (fe_globI (by rfl) T.c_MOST_COST) fa_nil)))) (fe_one (fe_call G_is_among hT hgd (hr.mono (by decide : 1 ≤ 1)) tk (by rfl) mg_is_among kp_is_among b_is_among (fa_cons (fe_var 5) (fa_cons fe_int (fa_cons (fe_globI (by rfl) T.c_MOST_TIME) fa_nil)))))))))))
theorem ok_is_road {f : Addr} {fd : FuncData} (T : Tx K mg) (g_is_among : Q_is_among P w K mg base TT) (F : Fun K "is_road" "is_road" s_is_road f fd) (hm : mg "is_road" = some (.ref f)) : Q_is_road P w K mg base TT :=
  ⟨⟨f, fd, own_is_road T g_is_among F, hm, F.kp, F.binds fun _ _ _ _ _ _ us hl => match us, hl with | [_, _], _ => rfl⟩⟩
abbrev s_is_net : Stmt := topS 32
abbrev N_is_net : List Str := ["thing", "places", "roads", "one"]
theorem sc_is_net : FnScope N_is_net ["thing"] (defScope s_is_net) := ⟨rfl, rfl, rfl, by decide +kernel, rfl, by decide +kernel, by decide +kernel⟩
abbrev Q_is_net (P : Program) (w : World) (K : PySem.W.Frag) (mg : Str → Option Value) (base : Heap) (TT : List (Addr × Str)) : Prop := Cal P w K mg base "is_net" 3 ["thing"] (spOf K mg TT false [false] m_is_net)
theorem own_is_net {f : Addr} {fd : FuncData} (T : Tx K mg) (g_is_among : Q_is_among P w K mg base TT) (g_is_road : Q_is_road P w K mg base TT) (F : Fun K "is_net" "is_net" s_is_net f fd) : FnG P w K mg base (L2.CX P w) 3 f fd ["thing"] (spOf K mg TT false [false] m_is_net) := by
  obtain ⟨f_is_among, fd_is_among, G_is_among, mg_is_among, kp_is_among, b_is_among⟩ := g_is_among.ex
  obtain ⟨f_is_road, fd_is_road, G_is_road, mg_is_road, kp_is_road, b_is_road⟩ := g_is_road.ex
  refine fnD false [false] F sc_is_net rfl ?_
  intro cdv hcv A outer s H E C hT hW hgd hr
  have tk := takes_of (X := cxOf (L2.CX P w) P w K mg base N_is_net "is_net" (defScope s_is_net) f cdv A outer s H E) (E := E) rfl rfl rfl rfl
  have hp := passes_of (X := cxOf (L2.CX P w) P w K mg base N_is_net "is_net" (defScope s_is_net) f cdv A outer s H E) rfl
  exact (fss_cons (fs_if (ft_w (fw_or (ft_not (ft_val (fe_isa (c := "tuple") (by decide) (by rfl) T.n_isinstance (by rfl) T.n_tuple (by decide +kernel) (fe_var 0)))) (fw_or (ft_cmp (o_ne hr.units) (fe_callB c_len (by rfl) T.n_len (by decide +kernel) (fa_cons (fe_var 0) fa_nil)) fe_int (nomark _)) (fw_or1 (ft_not (ft_val (fe_call G_is_among hT hgd (hr.mono (by decide : 1 ≤ 2)) tk (by rfl) mg_is_among kp_is_among b_is_among (fa_cons (fe_ix i_ix (fe_var 0) fe_int (fun _ _ => rfl)) (fa_cons fe_int (fa_cons (fe_globI (by rfl) T.c_MOST_PLACES) fa_nil)))))))))) (fss_one (fs_ret fe_bl)) fss_nil)
      (fss_cons (fs_asg (fe_var 0) (fg_tp rfl (fgs_cons (fg_nm sc_is_net.nd rfl (by first | exact Or.inl rfl | exact Or.inr rfl)) (fgs_cons (fg_nm sc_is_net.nd rfl (by first | exact Or.inl rfl | exact Or.inr rfl)) fgs_nil))))
      (fss_one (fs_ret (fe_and (fe_isa (c := "tuple") (by decide) (by rfl) T.n_isinstance (by rfl) T.n_tuple (by decide +kernel) (fe_var 2)) (fe_and (fe_cmp o_le (fe_callB c_len (by rfl) T.n_len (by decide +kernel) (fa_cons (fe_var 2) fa_nil)) (fe_globI (by rfl) T.c_MOST_ROADS) (nomark _)) (fe_one (fe_callB (c_all rfl) (by rfl) T.n_all (by decide +kernel) (fa_cons (fe_comp (own := [("one", 3)]) rfl sc_is_net.nd (fi_seq (fe_var 2)) (blkOk_by (own := [("one", 3)]) (N := N_is_net) (sc := defScope s_is_net) (by decide +kernel)) (fun _ _ _ _ _ => (fg_nm sc_is_net.nd rfl (by first | exact Or.inl rfl | exact Or.inr rfl))) (fun _ hT1 _ _ _ _ _ => fts_nil) (fun _ hT1 _ _ _ _ _ => (fe_call G_is_road (hT1.trans hT) hgd (hr.mono (by decide : 2 ≤ 2)) takes0 (by rfl) mg_is_road kp_is_road b_is_road (fa_cons (fe_var 3) (fa_cons (fe_var 1) fa_nil))))) fa_nil)))))))))
theorem ok_is_net {f : Addr} {fd : FuncData} (T : Tx K mg) (g_is_among : Q_is_among P w K mg base TT) (g_is_road : Q_is_road P w K mg base TT) (F : Fun K "is_net" "is_net" s_is_net f fd) (hm : mg "is_net" = some (.ref f)) : Q_is_net P w K mg base TT :=
  ⟨⟨f, fd, own_is_net T g_is_among g_is_road F, hm, F.kp, F.binds fun _ _ _ _ _ _ us hl => match us, hl with | [_], _ => rfl⟩⟩
abbrev s_need_net : Stmt := topS 33
abbrev N_need_net : List Str := ["thing"]
theorem sc_need_net : FnScope N_need_net ["thing"] (defScope s_need_net) := ⟨rfl, rfl, rfl, by decide +kernel, rfl, by decide +kernel, by decide +kernel⟩
abbrev Q_need_net (P : Program) (w : World) (K : PySem.W.Frag) (mg : Str → Option Value) (base : Heap) (TT : List (Addr × Str)) : Prop := Cal P w K mg base "need_net" 4 ["thing"] (spOf K mg TT false [false] m_need_net)
theorem own_need_net {f : Addr} {fd : FuncData} (T : Tx K mg) (g_is_net : Q_is_net P w K mg base TT) (F : Fun K "need_net" "need_net" s_need_net f fd) : FnG P w K mg base (L2.CX P w) 4 f fd ["thing"] (spOf K mg TT false [false] m_need_net) := by
  obtain ⟨f_is_net, fd_is_net, G_is_net, mg_is_net, kp_is_net, b_is_net⟩ := g_is_net.ex
  refine fnD false [false] F sc_need_net rfl ?_
  intro cdv hcv A outer s H E C hT hW hgd hr
  have tk := takes_of (X := cxOf (L2.CX P w) P w K mg base N_need_net "need_net" (defScope s_need_net) f cdv A outer s H E) (E := E) rfl rfl rfl rfl
  have hp := passes_of (X := cxOf (L2.CX P w) P w K mg base N_need_net "need_net" (defScope s_need_net) f cdv A outer s H E) rfl
  exact (fss_one (fs_if (ft_not (ft_val (fe_call G_is_net hT hgd (hr.mono (by decide : 3 ≤ 3)) tk (by rfl) mg_is_net kp_is_net b_is_net (fa_cons (fe_var 0) fa_nil)))) (fss_one (fs_raise rfl tk T.x_NoNet.choose_spec (by rfl))) fss_nil))
theorem ok_need_net {f : Addr} {fd : FuncData} (T : Tx K mg) (g_is_net : Q_is_net P w K mg base TT) (F : Fun K "need_net" "need_net" s_need_net f fd) (hm : mg "need_net" = some (.ref f)) : Q_need_net P w K mg base TT :=
  ⟨⟨f, fd, own_need_net T g_is_net F, hm, F.kp, F.binds fun _ _ _ _ _ _ us hl => match us, hl with | [_], _ => rfl⟩⟩
abbrev s_is_place : Stmt := topS 34
abbrev N_is_place : List Str := ["net", "thing"]
theorem sc_is_place : FnScope N_is_place ["net", "thing"] (defScope s_is_place) := ⟨rfl, rfl, rfl, by decide +kernel, rfl, by decide +kernel, by decide +kernel⟩
abbrev Q_is_place (P : Program) (w : World) (K : PySem.W.Frag) (mg : Str → Option Value) (base : Heap) (TT : List (Addr × Str)) : Prop := Cal P w K mg base "is_place" 2 ["net", "thing"] (spOf K mg TT false [false, false] m_is_place)
theorem own_is_place {f : Addr} {fd : FuncData} (T : Tx K mg) (g_is_among : Q_is_among P w K mg base TT) (F : Fun K "is_place" "is_place" s_is_place f fd) : FnG P w K mg base (L2.CX P w) 2 f fd ["net", "thing"] (spOf K mg TT false [false, false] m_is_place) := by
  obtain ⟨f_is_among, fd_is_among, G_is_among, mg_is_among, kp_is_among, b_is_among⟩ := g_is_among.ex
  refine fnD false [false, false] F sc_is_place rfl ?_
  intro cdv hcv A outer s H E C hT hW hgd hr
  have tk := takes_of (X := cxOf (L2.CX P w) P w K mg base N_is_place "is_place" (defScope s_is_place) f cdv A outer s H E) (E := E) rfl rfl rfl rfl
  have hp := passes_of (X := cxOf (L2.CX P w) P w K mg base N_is_place "is_place" (defScope s_is_place) f cdv A outer s H E) rfl
  exact (fss_one (fs_ret (fe_call G_is_among hT hgd (hr.mono (by decide : 1 ≤ 1)) tk (by rfl) mg_is_among kp_is_among b_is_among (fa_cons (fe_var 1) (fa_cons fe_int (fa_cons (fe_op o_sub (fe_ix i_ix (fe_var 0) fe_int (fun _ _ => rfl)) fe_int) fa_nil))))))
theorem ok_is_place {f : Addr} {fd : FuncData} (T : Tx K mg) (g_is_among : Q_is_among P w K mg base TT) (F : Fun K "is_place" "is_place" s_is_place f fd) (hm : mg "is_place" = some (.ref f)) : Q_is_place P w K mg base TT :=
  ⟨⟨f, fd, own_is_place T g_is_among F, hm, F.kp, F.binds fun _ _ _ _ _ _ us hl => match us, hl with | [_, _], _ => rfl⟩⟩
abbrev s_need_place : Stmt := topS 35
abbrev N_need_place : List Str := ["net", "thing"]
theorem sc_need_place : FnScope N_need_place ["net", "thing"] (defScope s_need_place) := ⟨rfl, rfl, rfl, by decide +kernel, rfl, by decide +kernel, by decide +kernel⟩
abbrev Q_need_place (P : Program) (w : World) (K : PySem.W.Frag) (mg : Str → Option Value) (base : Heap) (TT : List (Addr × Str)) : Prop := Cal P w K mg base "need_place" 3 ["net", "thing"] (spOf K mg TT false [false, false] m_need_place)
theorem own_need_place {f : Addr} {fd : FuncData} (T : Tx K mg) (g_is_place : Q_is_place P w K mg base TT) (F : Fun K "need_place" "need_place" s_need_place f fd) : FnG P w K mg base (L2.CX P w) 3 f fd ["net", "thing"] (spOf K mg TT false [false, false] m_need_place) := by
  obtain ⟨f_is_place, fd_is_place, G_is_place, mg_is_place, kp_is_place, b_is_place⟩ := g_is_place.ex
  refine fnD false [false, false] F sc_need_place rfl ?_
  intro cdv hcv A outer s H E C hT hW hgd hr
  have tk := takes_of (X := cxOf (L2.CX P w) P w K mg base N_need_place "need_place" (defScope s_need_place) f cdv A outer s H E) (E := E) rfl rfl rfl rfl
  have hp := passes_of (X := cxOf (L2.CX P w) P w K mg base N_need_place "need_place" (defScope s_need_place) f cdv A outer s H E) rfl
  exact (fss_one (fs_if (ft_not (ft_val (fe_call G_is_place hT hgd (hr.mono (by decide : 2 ≤ 2)) tk (by rfl) mg_is_place kp_is_place b_is_place (fa_cons (fe_var 0) (fa_cons (fe_var 1) fa_nil))))) (fss_one (fs_raise rfl tk T.x_NoPlace.choose_spec (by rfl))) fss_nil))
theorem ok_need_place {f : Addr} {fd : FuncData} (T : Tx K mg) (g_is_place : Q_is_place P w K mg base TT) (F : Fun K "need_place" "need_place" s_need_place f fd) (hm : mg "need_place" = some (.ref f)) : Q_need_place P w K mg base TT :=
  ⟨⟨f, fd, own_need_place T g_is_place F, hm, F.kp, F.binds fun _ _ _ _ _ _ us hl => match us, hl with | [_, _], _ => rfl⟩⟩
abbrev s_is_number_of_road : Stmt := topS 36
abbrev N_is_number_of_road : List Str := ["net", "thing"]
theorem sc_is_number_of_road : FnScope N_is_number_of_road ["net", "thing"] (defScope s_is_number_of_road) := ⟨rfl, rfl, rfl, by decide +kernel, rfl, by decide +kernel, by decide +kernel⟩
abbrev Q_is_number_of_road (P : Program) (w : World) (K : PySem.W.Frag) (mg : Str → Option Value) (base : Heap) (TT : List (Addr × Str)) : Prop := Cal P w K mg base "is_number_of_road" 2 ["net", "thing"] (spOf K mg TT false [false, false] m_is_number_of_road)
theorem own_is_number_of_road {f : Addr} {fd : FuncData} (T : Tx K mg) (g_is_among : Q_is_among P w K mg base TT) (F : Fun K "is_number_of_road" "is_number_of_road" s_is_number_of_road f fd) : FnG P w K mg base (L2.CX P w) 2 f fd ["net", "thing"] (spOf K mg TT false [false, false] m_is_number_of_road) := by
  obtain ⟨f_is_among, fd_is_among, G_is_among, mg_is_among, kp_is_among, b_is_among⟩ := g_is_among.ex
  refine fnD false [false, false] F sc_is_number_of_road rfl ?_
  intro cdv hcv A outer s H E C hT hW hgd hr
  have tk := takes_of (X := cxOf (L2.CX P w) P w K mg base N_is_number_of_road "is_number_of_road" (defScope s_is_number_of_road) f cdv A outer s H E) (E := E) rfl rfl rfl rfl
  have hp := passes_of (X := cxOf (L2.CX P w) P w K mg base N_is_number_of_road "is_number_of_road" (defScope s_is_number_of_road) f cdv A outer s H E) rfl
  exact (fss_one (fs_ret (fe_call G_is_among hT hgd (hr.mono (by decide : 1 ≤ 1)) tk (by rfl) mg_is_among kp_is_among b_is_among (fa_cons (fe_var 1) (fa_cons fe_int (fa_cons (fe_op o_sub (fe_callB c_len (by rfl) T.n_len (by decide +kernel) (fa_cons (fe_ix i_ix (fe_var 0) fe_int (fun _ _ => rfl)) fa_nil)) fe_int) fa_nil))))))
theorem ok_is_number_of_road {f : Addr} {fd : FuncData} (T : Tx K mg) (g_is_among : Q_is_among P w K mg base TT) (F : Fun K "is_number_of_road" "is_number_of_road" s_is_number_of_road f fd) (hm : mg "is_number_of_road" = some (.ref f)) : Q_is_number_of_road P w K mg base TT :=
  ⟨⟨f, fd, own_is_number_of_road T g_is_among F, hm, F.kp, F.binds fun _ _ _ _ _ _ us hl => match us, hl with | [_, _], _ => rfl⟩⟩
abbrev s_places_on : Stmt := topS 37
abbrev N_places_on : List Str := ["net", "place", "way", "found", "road"]
theorem sc_places_on : FnScope N_places_on ["net", "place", "way"] (defScope s_places_on) := ⟨rfl, rfl, rfl, by decide +kernel, rfl, by decide +kernel, by decide +kernel⟩
abbrev Q_places_on (P : Program) (w : World) (K : PySem.W.Frag) (mg : Str → Option Value) (base : Heap) (TT : List (Addr × Str)) : Prop := Cal P w K mg base "places_on" 3 ["net", "place", "way"] (spOf K mg TT false [false, false, false] m_places_on)
theorem own_places_on {f : Addr} {fd : FuncData} (T : Tx K mg) (g_is_number_of_road : Q_is_number_of_road P w K mg base TT) (F : Fun K "places_on" "places_on" s_places_on f fd) : FnG P w K mg base (L2.CX P w) 3 f fd ["net", "place", "way"] (spOf K mg TT false [false, false, false] m_places_on) := by
  obtain ⟨f_is_number_of_road, fd_is_number_of_road, G_is_number_of_road, mg_is_number_of_road, kp_is_number_of_road, b_is_number_of_road⟩ := g_is_number_of_road.ex
  refine fnD false [false, false, false] F sc_places_on rfl ?_
  intro cdv hcv A outer s H E C hT hW hgd hr
  have tk := takes_of (X := cxOf (L2.CX P w) P w K mg base N_places_on "places_on" (defScope s_places_on) f cdv A outer s H E) (E := E) rfl rfl rfl rfl
  have hp := passes_of (X := cxOf (L2.CX P w) P w K mg base N_places_on "places_on" (defScope s_places_on) f cdv A outer s H E) rfl
  exact (fss_cons (fs_set (i := 3) sc_places_on.nd rfl (by first | exact Or.inl rfl | exact Or.inr rfl) (fe_new (fa_cons (fe_var 1) fa_nil)))
      (fss_cons (fs_for hp rfl (fi_seq (fe_var 2)) (fg_nm sc_places_on.nd rfl (by first | exact Or.inl rfl | exact Or.inr rfl)) (fss_cons (fs_if (ft_w (fw_or (ft_not (ft_val (fe_call G_is_number_of_road hT hgd (hr.mono (by decide : 2 ≤ 2)) tk (by rfl) mg_is_number_of_road kp_is_number_of_road b_is_number_of_road (fa_cons (fe_var 0) (fa_cons (fe_var 4) fa_nil))))) (fw_or1 (ft_cmp (o_ne hr.units) (fe_ix i_ix (fe_ix i_ix (fe_ix i_ix (fe_var 0) fe_int (fun _ _ => rfl)) (fe_var 4) (fun _ _ => rfl)) fe_int (fun _ _ => rfl)) (fe_ix i_ix (fe_var 3) (fe_un u_neg fe_int) (fun _ _ => rfl)) (nomark _))))) (fss_one (fs_ret fe_non)) fss_nil)
      (fss_one (fs_exp (fe_mt PySem.F.slot_list_append PySem.F.type_list_append m_append (fe_var 3) (fa_cons (fe_ix i_ix (fe_ix i_ix (fe_ix i_ix (fe_var 0) fe_int (fun _ _ => rfl)) (fe_var 4) (fun _ _ => rfl)) fe_int (fun _ _ => rfl)) fa_nil))))))
      (fss_one (fs_ret (fe_var 3)))))
theorem ok_places_on {f : Addr} {fd : FuncData} (T : Tx K mg) (g_is_number_of_road : Q_is_number_of_road P w K mg base TT) (F : Fun K "places_on" "places_on" s_places_on f fd) (hm : mg "places_on" = some (.ref f)) : Q_places_on P w K mg base TT :=
  ⟨⟨f, fd, own_places_on T g_is_number_of_road F, hm, F.kp, F.binds fun _ _ _ _ _ _ us hl => match us, hl with | [_, _, _], _ => rfl⟩⟩
abbrev s_cost_by : Stmt := topS 38
abbrev N_cost_by : List Str := ["net", "way", "road"]
theorem sc_cost_by : FnScope N_cost_by ["net", "way"] (defScope s_cost_by) := ⟨rfl, rfl, rfl, by decide +kernel, rfl, by decide +kernel, by decide +kernel⟩
abbrev Q_cost_by (P : Program) (w : World) (K : PySem.W.Frag) (mg : Str → Option Value) (base : Heap) (TT : List (Addr × Str)) : Prop := Cal P w K mg base "cost_by" 1 ["net", "way"] (spOf K mg TT false [false, false] m_cost_by)
theorem own_cost_by {f : Addr} {fd : FuncData} (T : Tx K mg) (F : Fun K "cost_by" "cost_by" s_cost_by f fd) : FnG P w K mg base (L2.CX P w) 1 f fd ["net", "way"] (spOf K mg TT false [false, false] m_cost_by) := by
  refine fnD false [false, false] F sc_cost_by rfl ?_
  intro cdv hcv A outer s H E C hT hW hgd hr
  have tk := takes_of (X := cxOf (L2.CX P w) P w K mg base N_cost_by "cost_by" (defScope s_cost_by) f cdv A outer s H E) (E := E) rfl rfl rfl rfl
  have hp := passes_of (X := cxOf (L2.CX P w) P w K mg base N_cost_by "cost_by" (defScope s_cost_by) f cdv A outer s H E) rfl
  exact (fss_one (fs_ret (fe_callB (c_sum rfl) (by rfl) T.n_sum (by decide +kernel) (fa_cons (fe_comp (own := [("road", 2)]) rfl sc_cost_by.nd (fi_seq (fe_var 1)) (blkOk_by (own := [("road", 2)]) (N := N_cost_by) (sc := defScope s_cost_by) (by decide +kernel)) (fun _ _ _ _ _ => (fg_nm sc_cost_by.nd rfl (by first | exact Or.inl rfl | exact Or.inr rfl))) (fun _ hT1 _ _ _ _ _ => fts_nil) (fun _ hT1 _ _ _ _ _ => (fe_ix i_ix (fe_ix i_ix (fe_ix i_ix (fe_var 0) fe_int (fun _ _ => rfl)) (fe_var 2) (fun _ _ => rfl)) fe_int (fun _ _ => rfl)))) fa_nil))))
theorem ok_cost_by {f : Addr} {fd : FuncData} (T : Tx K mg) (F : Fun K "cost_by" "cost_by" s_cost_by f fd) (hm : mg "cost_by" = some (.ref f)) : Q_cost_by P w K mg base TT :=
  ⟨⟨f, fd, own_cost_by T F, hm, F.kp, F.binds fun _ _ _ _ _ _ us hl => match us, hl with | [_, _], _ => rfl⟩⟩
abbrev s_time_by : Stmt := topS 39
abbrev N_time_by : List Str := ["net", "way", "road"]
theorem sc_time_by : FnScope N_time_by ["net", "way"] (defScope s_time_by) := ⟨rfl, rfl, rfl, by decide +kernel, rfl, by decide +kernel, by decide +kernel⟩
abbrev Q_time_by (P : Program) (w : World) (K : PySem.W.Frag) (mg : Str → Option Value) (base : Heap) (TT : List (Addr × Str)) : Prop := Cal P w K mg base "time_by" 1 ["net", "way"] (spOf K mg TT false [false, false] m_time_by)
theorem own_time_by {f : Addr} {fd : FuncData} (T : Tx K mg) (F : Fun K "time_by" "time_by" s_time_by f fd) : FnG P w K mg base (L2.CX P w) 1 f fd ["net", "way"] (spOf K mg TT false [false, false] m_time_by) := by
  refine fnD false [false, false] F sc_time_by rfl ?_
  intro cdv hcv A outer s H E C hT hW hgd hr
  have tk := takes_of (X := cxOf (L2.CX P w) P w K mg base N_time_by "time_by" (defScope s_time_by) f cdv A outer s H E) (E := E) rfl rfl rfl rfl
  have hp := passes_of (X := cxOf (L2.CX P w) P w K mg base N_time_by "time_by" (defScope s_time_by) f cdv A outer s H E) rfl
  exact (fss_one (fs_ret (fe_callB (c_sum rfl) (by rfl) T.n_sum (by decide +kernel) (fa_cons (fe_comp (own := [("road", 2)]) rfl sc_time_by.nd (fi_seq (fe_var 1)) (blkOk_by (own := [("road", 2)]) (N := N_time_by) (sc := defScope s_time_by) (by decide +kernel)) (fun _ _ _ _ _ => (fg_nm sc_time_by.nd rfl (by first | exact Or.inl rfl | exact Or.inr rfl))) (fun _ hT1 _ _ _ _ _ => fts_nil) (fun _ hT1 _ _ _ _ _ => (fe_ix i_ix (fe_ix i_ix (fe_ix i_ix (fe_var 0) fe_int (fun _ _ => rfl)) (fe_var 2) (fun _ _ => rfl)) fe_int (fun _ _ => rfl)))) fa_nil))))
theorem ok_time_by {f : Addr} {fd : FuncData} (T : Tx K mg) (F : Fun K "time_by" "time_by" s_time_by f fd) (hm : mg "time_by" = some (.ref f)) : Q_time_by P w K mg base TT :=
  ⟨⟨f, fd, own_time_by T F, hm, F.kp, F.binds fun _ _ _ _ _ _ us hl => match us, hl with | [_, _], _ => rfl⟩⟩
abbrev s_way_in : Stmt := topS 40
abbrev N_way_in : List Str := ["net", "place", "thing", "found"]
theorem sc_way_in : FnScope N_way_in ["net", "place", "thing"] (defScope s_way_in) := ⟨rfl, rfl, rfl, by decide +kernel, rfl, by decide +kernel, by decide +kernel⟩
abbrev Q_way_in (P : Program) (w : World) (K : PySem.W.Frag) (mg : Str → Option Value) (base : Heap) (TT : List (Addr × Str)) : Prop := Cal P w K mg base "way_in" 4 ["net", "place", "thing"] (spOf K mg TT false [false, false, false] m_way_in)
theorem own_way_in {f : Addr} {fd : FuncData} (T : Tx K mg) (g_places_on : Q_places_on P w K mg base TT) (g_cost_by : Q_cost_by P w K mg base TT) (g_time_by : Q_time_by P w K mg base TT) (F : Fun K "way_in" "way_in" s_way_in f fd) : FnG P w K mg base (L2.CX P w) 4 f fd ["net", "place", "thing"] (spOf K mg TT false [false, false, false] m_way_in) := by
  obtain ⟨f_places_on, fd_places_on, G_places_on, mg_places_on, kp_places_on, b_places_on⟩ := g_places_on.ex
  obtain ⟨f_cost_by, fd_cost_by, G_cost_by, mg_cost_by, kp_cost_by, b_cost_by⟩ := g_cost_by.ex
  obtain ⟨f_time_by, fd_time_by, G_time_by, mg_time_by, kp_time_by, b_time_by⟩ := g_time_by.ex
  refine fnD false [false, false, false] F sc_way_in rfl ?_
  intro cdv hcv A outer s H E C hT hW hgd hr
  have tk := takes_of (X := cxOf (L2.CX P w) P w K mg base N_way_in "way_in" (defScope s_way_in) f cdv A outer s H E) (E := E) rfl rfl rfl rfl
  have hp := passes_of (X := cxOf (L2.CX P w) P w K mg base N_way_in "way_in" (defScope s_way_in) f cdv A outer s H E) rfl
  exact (fss_cons (fs_set (i := 3) sc_way_in.nd rfl (by first | exact Or.inl rfl | exact Or.inr rfl) (fe_if (ft_val (fe_isa (c := "tuple") (by decide) (by rfl) T.n_isinstance (by rfl) T.n_tuple (by decide +kernel) (fe_var 2))) (fe_call G_places_on hT hgd (hr.mono (by decide : 3 ≤ 3)) tk (by rfl) mg_places_on kp_places_on b_places_on (fa_cons (fe_var 0) (fa_cons (fe_var 1) (fa_cons (fe_var 2) fa_nil)))) fe_non))
      (fss_one (fs_ret (fe_if (ft_cmp o_is (fe_var 3) fe_non (nomark _)) fe_non (fe_tup (fa_cons (fe_ix i_ix (fe_var 3) (fe_un u_neg fe_int) (fun _ _ => rfl)) (fa_cons (fe_call G_cost_by hT hgd (hr.mono (by decide : 1 ≤ 3)) tk (by rfl) mg_cost_by kp_cost_by b_cost_by (fa_cons (fe_var 0) (fa_cons (fe_var 2) fa_nil))) (fa_cons (fe_call G_time_by hT hgd (hr.mono (by decide : 1 ≤ 3)) tk (by rfl) mg_time_by kp_time_by b_time_by (fa_cons (fe_var 0) (fa_cons (fe_var 2) fa_nil))) fa_nil))))))))
theorem ok_way_in {f : Addr} {fd : FuncData} (T : Tx K mg) (g_places_on : Q_places_on P w K mg base TT) (g_cost_by : Q_cost_by P w K mg base TT) (g_time_by : Q_time_by P w K mg base TT) (F : Fun K "way_in" "way_in" s_way_in f fd) (hm : mg "way_in" = some (.ref f)) : Q_way_in P w K mg base TT :=
  ⟨⟨f, fd, own_way_in T g_places_on g_cost_by g_time_by F, hm, F.kp, F.binds fun _ _ _ _ _ _ us hl => match us, hl with | [_, _, _], _ => rfl⟩⟩
abbrev s_way_of : Stmt := topS 41
abbrev N_way_of : List Str := ["net", "place", "thing"]
theorem sc_way_of : FnScope N_way_of ["net", "place", "thing"] (defScope s_way_of) := ⟨rfl, rfl, rfl, by decide +kernel, rfl, by decide +kernel, by decide +kernel⟩
abbrev Q_way_of (P : Program) (w : World) (K : PySem.W.Frag) (mg : Str → Option Value) (base : Heap) (TT : List (Addr × Str)) : Prop := Cal P w K mg base "way_of" 5 ["net", "place", "thing"] (spOf K mg TT false [false, false, false] m_way_of)
theorem own_way_of {f : Addr} {fd : FuncData} (T : Tx K mg) (g_need_net : Q_need_net P w K mg base TT) (g_need_place : Q_need_place P w K mg base TT) (g_way_in : Q_way_in P w K mg base TT) (F : Fun K "way_of" "way_of" s_way_of f fd) : FnG P w K mg base (L2.CX P w) 5 f fd ["net", "place", "thing"] (spOf K mg TT false [false, false, false] m_way_of) := by
  obtain ⟨f_need_net, fd_need_net, G_need_net, mg_need_net, kp_need_net, b_need_net⟩ := g_need_net.ex
  obtain ⟨f_need_place, fd_need_place, G_need_place, mg_need_place, kp_need_place, b_need_place⟩ := g_need_place.ex
  obtain ⟨f_way_in, fd_way_in, G_way_in, mg_way_in, kp_way_in, b_way_in⟩ := g_way_in.ex
  refine fnD false [false, false, false] F sc_way_of rfl ?_
  intro cdv hcv A outer s H E C hT hW hgd hr
  have tk := takes_of (X := cxOf (L2.CX P w) P w K mg base N_way_of "way_of" (defScope s_way_of) f cdv A outer s H E) (E := E) rfl rfl rfl rfl
  have hp := passes_of (X := cxOf (L2.CX P w) P w K mg base N_way_of "way_of" (defScope s_way_of) f cdv A outer s H E) rfl
  exact (fss_cons (fs_exp (fe_call G_need_net hT hgd (hr.mono (by decide : 4 ≤ 4)) tk (by rfl) mg_need_net kp_need_net b_need_net (fa_cons (fe_var 0) fa_nil)))
      (fss_cons (fs_exp (fe_call G_need_place hT hgd (hr.mono (by decide : 3 ≤ 4)) tk (by rfl) mg_need_place kp_need_place b_need_place (fa_cons (fe_var 0) (fa_cons (fe_var 1) fa_nil))))
      (fss_one (fs_ret (fe_call G_way_in hT hgd (hr.mono (by decide : 4 ≤ 4)) tk (by rfl) mg_way_in kp_way_in b_way_in (fa_cons (fe_var 0) (fa_cons (fe_var 1) (fa_cons (fe_var 2) fa_nil))))))))
theorem ok_way_of {f : Addr} {fd : FuncData} (T : Tx K mg) (g_need_net : Q_need_net P w K mg base TT) (g_need_place : Q_need_place P w K mg base TT) (g_way_in : Q_way_in P w K mg base TT) (F : Fun K "way_of" "way_of" s_way_of f fd) (hm : mg "way_of" = some (.ref f)) : Q_way_of P w K mg base TT :=
  ⟨⟨f, fd, own_way_of T g_need_net g_need_place g_way_in F, hm, F.kp, F.binds fun _ _ _ _ _ _ us hl => match us, hl with | [_, _, _], _ => rfl⟩⟩
abbrev s_simple_in : Stmt := topS 42
abbrev N_simple_in : List Str := ["net", "place", "thing", "found"]
theorem sc_simple_in : FnScope N_simple_in ["net", "place", "thing"] (defScope s_simple_in) := ⟨rfl, rfl, rfl, by decide +kernel, rfl, by decide +kernel, by decide +kernel⟩
abbrev Q_simple_in (P : Program) (w : World) (K : PySem.W.Frag) (mg : Str → Option Value) (base : Heap) (TT : List (Addr × Str)) : Prop := Cal P w K mg base "simple_in" 4 ["net", "place", "thing"] (spOf K mg TT false [false, false, false] m_simple_in)
theorem own_simple_in {f : Addr} {fd : FuncData} (T : Tx K mg) (g_are_unlike : Q_are_unlike P w K mg base TT) (g_places_on : Q_places_on P w K mg base TT) (F : Fun K "simple_in" "simple_in" s_simple_in f fd) : FnG P w K mg base (L2.CX P w) 4 f fd ["net", "place", "thing"] (spOf K mg TT false [false, false, false] m_simple_in) := by
  obtain ⟨f_are_unlike, fd_are_unlike, G_are_unlike, mg_are_unlike, kp_are_unlike, b_are_unlike⟩ := g_are_unlike.ex
  obtain ⟨f_places_on, fd_places_on, G_places_on, mg_places_on, kp_places_on, b_places_on⟩ := g_places_on.ex
  refine fnD false [false, false, false] F sc_simple_in rfl ?_
  intro cdv hcv A outer s H E C hT hW hgd hr
  have tk := takes_of (X := cxOf (L2.CX P w) P w K mg base N_simple_in "simple_in" (defScope s_simple_in) f cdv A outer s H E) (E := E) rfl rfl rfl rfl
  have hp := passes_of (X := cxOf (L2.CX P w) P w K mg base N_simple_in "simple_in" (defScope s_simple_in) f cdv A outer s H E) rfl
  exact (fss_cons (fs_set (i := 3) sc_simple_in.nd rfl (by first | exact Or.inl rfl | exact Or.inr rfl) (fe_if (ft_val (fe_isa (c := "tuple") (by decide) (by rfl) T.n_isinstance (by rfl) T.n_tuple (by decide +kernel) (fe_var 2))) (fe_call G_places_on hT hgd (hr.mono (by decide : 3 ≤ 3)) tk (by rfl) mg_places_on kp_places_on b_places_on (fa_cons (fe_var 0) (fa_cons (fe_var 1) (fa_cons (fe_var 2) fa_nil)))) fe_non))
      (fss_one (fs_ret (fe_and (fe_cmp o_isnot (fe_var 3) fe_non (nomark _)) (fe_one (fe_call G_are_unlike hT hgd (hr.mono (by decide : 1 ≤ 3)) tk (by rfl) mg_are_unlike kp_are_unlike b_are_unlike (fa_cons (fe_var 3) fa_nil)))))))
theorem ok_simple_in {f : Addr} {fd : FuncData} (T : Tx K mg) (g_are_unlike : Q_are_unlike P w K mg base TT) (g_places_on : Q_places_on P w K mg base TT) (F : Fun K "simple_in" "simple_in" s_simple_in f fd) (hm : mg "simple_in" = some (.ref f)) : Q_simple_in P w K mg base TT :=
  ⟨⟨f, fd, own_simple_in T g_are_unlike g_places_on F, hm, F.kp, F.binds fun _ _ _ _ _ _ us hl => match us, hl with | [_, _, _], _ => rfl⟩⟩
abbrev s_is_simple : Stmt := topS 43
abbrev N_is_simple : List Str := ["net", "place", "thing"]
theorem sc_is_simple : FnScope N_is_simple ["net", "place", "thing"] (defScope s_is_simple) := ⟨rfl, rfl, rfl, by decide +kernel, rfl, by decide +kernel, by decide +kernel⟩
abbrev Q_is_simple (P : Program) (w : World) (K : PySem.W.Frag) (mg : Str → Option Value) (base : Heap) (TT : List (Addr × Str)) : Prop := Cal P w K mg base "is_simple" 5 ["net", "place", "thing"] (spOf K mg TT false [false, false, false] m_is_simple)
theorem own_is_simple {f : Addr} {fd : FuncData} (T : Tx K mg) (g_need_net : Q_need_net P w K mg base TT) (g_need_place : Q_need_place P w K mg base TT) (g_simple_in : Q_simple_in P w K mg base TT) (F : Fun K "is_simple" "is_simple" s_is_simple f fd) : FnG P w K mg base (L2.CX P w) 5 f fd ["net", "place", "thing"] (spOf K mg TT false [false, false, false] m_is_simple) := by
  obtain ⟨f_need_net, fd_need_net, G_need_net, mg_need_net, kp_need_net, b_need_net⟩ := g_need_net.ex
  obtain ⟨f_need_place, fd_need_place, G_need_place, mg_need_place, kp_need_place, b_need_place⟩ := g_need_place.ex
  obtain ⟨f_simple_in, fd_simple_in, G_simple_in, mg_simple_in, kp_simple_in, b_simple_in⟩ := g_simple_in.ex
  refine fnD false [false, false, false] F sc_is_simple rfl ?_
  intro cdv hcv A outer s H E C hT hW hgd hr
  have tk := takes_of (X := cxOf (L2.CX P w) P w K mg base N_is_simple "is_simple" (defScope s_is_simple) f cdv A outer s H E) (E := E) rfl rfl rfl rfl
  have hp := passes_of (X := cxOf (L2.CX P w) P w K mg base N_is_simple "is_simple" (defScope s_is_simple) f cdv A outer s H E) rfl
  exact (fss_cons (fs_exp (fe_call G_need_net hT hgd (hr.mono (by decide : 4 ≤ 4)) tk (by rfl) mg_need_net kp_need_net b_need_net (fa_cons (fe_var 0) fa_nil)))
      (fss_cons (fs_exp (fe_call G_need_place hT hgd (hr.mono (by decide : 3 ≤ 4)) tk (by rfl) mg_need_place kp_need_place b_need_place (fa_cons (fe_var 0) (fa_cons (fe_var 1) fa_nil))))
      (fss_one (fs_ret (fe_call G_simple_in hT hgd (hr.mono (by decide : 4 ≤ 4)) tk (by rfl) mg_simple_in kp_simple_in b_simple_in (fa_cons (fe_var 0) (fa_cons (fe_var 1) (fa_cons (fe_var 2) fa_nil))))))))
theorem ok_is_simple {f : Addr} {fd : FuncData} (T : Tx K mg) (g_need_net : Q_need_net P w K mg base TT) (g_need_place : Q_need_place P w K mg base TT) (g_simple_in : Q_simple_in P w K mg base TT) (F : Fun K "is_simple" "is_simple" s_is_simple f fd) (hm : mg "is_simple" = some (.ref f)) : Q_is_simple P w K mg base TT :=
  ⟨⟨f, fd, own_is_simple T g_need_net g_need_place g_simple_in F, hm, F.kp, F.binds fun _ _ _ _ _ _ us hl => match us, hl with | [_, _, _], _ => rfl⟩⟩
abbrev s_need_shut : Stmt := topS 45
abbrev N_need_shut : List Str := ["net", "goal", "thing", "place"]
theorem sc_need_shut : FnScope N_need_shut ["net", "goal", "thing"] (defScope s_need_shut) := ⟨rfl, rfl, rfl, by decide +kernel, rfl, by decide +kernel, by decide +kernel⟩
abbrev Q_need_shut (P : Program) (w : World) (K : PySem.W.Frag) (mg : Str → Option Value) (base : Heap) (TT : List (Addr × Str)) : Prop := Cal P w K mg base "need_shut" 3 ["net", "goal", "thing"] (spOf K mg TT false [false, false, false] m_need_shut)
theorem own_need_shut {f : Addr} {fd : FuncData} (T : Tx K mg) (g_are_rising : Q_are_rising P w K mg base TT) (g_is_place : Q_is_place P w K mg base TT) (F : Fun K "need_shut" "need_shut" s_need_shut f fd) : FnG P w K mg base (L2.CX P w) 3 f fd ["net", "goal", "thing"] (spOf K mg TT false [false, false, false] m_need_shut) := by
  obtain ⟨f_are_rising, fd_are_rising, G_are_rising, mg_are_rising, kp_are_rising, b_are_rising⟩ := g_are_rising.ex
  obtain ⟨f_is_place, fd_is_place, G_is_place, mg_is_place, kp_is_place, b_is_place⟩ := g_is_place.ex
  refine fnD false [false, false, false] F sc_need_shut rfl ?_
  intro cdv hcv A outer s H E C hT hW hgd hr
  have tk := takes_of (X := cxOf (L2.CX P w) P w K mg base N_need_shut "need_shut" (defScope s_need_shut) f cdv A outer s H E) (E := E) rfl rfl rfl rfl
  have hp := passes_of (X := cxOf (L2.CX P w) P w K mg base N_need_shut "need_shut" (defScope s_need_shut) f cdv A outer s H E) rfl
  exact (fss_cons (fs_if (ft_w (fw_or (ft_not (ft_val (fe_isa (c := "tuple") (by decide) (by rfl) T.n_isinstance (by rfl) T.n_tuple (by decide +kernel) (fe_var 2)))) (fw_or1 (ft_not (ft_val (fe_callB (c_all rfl) (by rfl) T.n_all (by decide +kernel) (fa_cons (fe_comp (own := [("place", 3)]) rfl sc_need_shut.nd (fi_seq (fe_var 2)) (blkOk_by (own := [("place", 3)]) (N := N_need_shut) (sc := defScope s_need_shut) (by decide +kernel)) (fun _ _ _ _ _ => (fg_nm sc_need_shut.nd rfl (by first | exact Or.inl rfl | exact Or.inr rfl))) (fun _ hT1 _ _ _ _ _ => fts_nil) (fun _ hT1 _ _ _ _ _ => (fe_call G_is_place (hT1.trans hT) hgd (hr.mono (by decide : 2 ≤ 2)) takes0 (by rfl) mg_is_place kp_is_place b_is_place (fa_cons (fe_var 0) (fa_cons (fe_var 3) fa_nil))))) fa_nil))))))) (fss_one (fs_raise rfl tk T.x_NoShut.choose_spec (by rfl))) fss_nil)
      (fss_one (fs_if (ft_w (fw_or (ft_not (ft_val (fe_call G_are_rising hT hgd (hr.mono (by decide : 1 ≤ 2)) tk (by rfl) mg_are_rising kp_are_rising b_are_rising (fa_cons (fe_var 2) fa_nil)))) (fw_or1 (ft_cmp (o_in hr.u65) (fe_var 1) (fe_var 2) (by with_unfolding_all rfl))))) (fss_one (fs_raise rfl tk T.x_NoShut.choose_spec (by rfl))) fss_nil)))
theorem ok_need_shut {f : Addr} {fd : FuncData} (T : Tx K mg) (g_are_rising : Q_are_rising P w K mg base TT) (g_is_place : Q_is_place P w K mg base TT) (F : Fun K "need_shut" "need_shut" s_need_shut f fd) (hm : mg "need_shut" = some (.ref f)) : Q_need_shut P w K mg base TT :=
  ⟨⟨f, fd, own_need_shut T g_are_rising g_is_place F, hm, F.kp, F.binds fun _ _ _ _ _ _ us hl => match us, hl with | [_, _, _], _ => rfl⟩⟩
abbrev s_open_roads : Stmt := topS 46
abbrev N_open_roads : List Str := ["net", "shut", "road"]
theorem sc_open_roads : FnScope N_open_roads ["net", "shut"] (defScope s_open_roads) := ⟨rfl, rfl, rfl, by decide +kernel, rfl, by decide +kernel, by decide +kernel⟩
abbrev Q_open_roads (P : Program) (w : World) (K : PySem.W.Frag) (mg : Str → Option Value) (base : Heap) (TT : List (Addr × Str)) : Prop := Cal P w K mg base "open_roads" 1 ["net", "shut"] (spOf K mg TT false [false, false] m_open_roads)
theorem own_open_roads {f : Addr} {fd : FuncData} (T : Tx K mg) (F : Fun K "open_roads" "open_roads" s_open_roads f fd) : FnG P w K mg base (L2.CX P w) 1 f fd ["net", "shut"] (spOf K mg TT false [false, false] m_open_roads) := by
  refine fnD false [false, false] F sc_open_roads rfl ?_
  intro cdv hcv A outer s H E C hT hW hgd hr
  have tk := takes_of (X := cxOf (L2.CX P w) P w K mg base N_open_roads "open_roads" (defScope s_open_roads) f cdv A outer s H E) (E := E) rfl rfl rfl rfl
  have hp := passes_of (X := cxOf (L2.CX P w) P w K mg base N_open_roads "open_roads" (defScope s_open_roads) f cdv A outer s H E) rfl
  exact (fss_one (fs_ret (fe_comp (own := [("road", 2)]) rfl sc_open_roads.nd (fi_seq (fe_ix i_ix (fe_var 0) fe_int (fun _ _ => rfl))) (blkOk_by (own := [("road", 2)]) (N := N_open_roads) (sc := defScope s_open_roads) (by decide +kernel)) (fun _ _ _ _ _ => (fg_nm sc_open_roads.nd rfl (by first | exact Or.inl rfl | exact Or.inr rfl))) (fun _ hT1 _ _ _ _ _ => (fts_one (ft_w (fw_and (ft_cmp (o_notin hr.u65) (fe_ix i_ix (fe_var 2) fe_int (fun _ _ => rfl)) (fe_var 1) (by with_unfolding_all rfl)) (fw_and1 (ft_cmp (o_notin hr.u65) (fe_ix i_ix (fe_var 2) fe_int (fun _ _ => rfl)) (fe_var 1) (by with_unfolding_all rfl))))))) (fun _ hT1 _ _ _ _ _ => (fe_var 2)))))
theorem ok_open_roads {f : Addr} {fd : FuncData} (T : Tx K mg) (F : Fun K "open_roads" "open_roads" s_open_roads f fd) (hm : mg "open_roads" = some (.ref f)) : Q_open_roads P w K mg base TT :=
  ⟨⟨f, fd, own_open_roads T F, hm, F.kp, F.binds fun _ _ _ _ _ _ us hl => match us, hl with | [_, _], _ => rfl⟩⟩
abbrev s_prices_by : Stmt := topS 47
abbrev N_prices_by : List Str := ["net", "goal", "shut", "found", "roads", "turn", "one", "other", "cost", "time", "place"]
theorem sc_prices_by : FnScope N_prices_by ["net", "goal", "shut"] (defScope s_prices_by) := ⟨rfl, rfl, rfl, by decide +kernel, rfl, by decide +kernel, by decide +kernel⟩
abbrev Q_prices_by (P : Program) (w : World) (K : PySem.W.Frag) (mg : Str → Option Value) (base : Heap) (TT : List (Addr × Str)) : Prop := Cal P w K mg base "prices_by" 2 ["net", "goal", "shut"] (spOf K mg TT false [false, false, false] m_prices_by)
theorem own_prices_by {f : Addr} {fd : FuncData} (T : Tx K mg) (g_open_roads : Q_open_roads P w K mg base TT) (F : Fun K "prices_by" "prices_by" s_prices_by f fd) : FnG P w K mg base (L2.CX P w) 2 f fd ["net", "goal", "shut"] (spOf K mg TT false [false, false, false] m_prices_by) := by
  obtain ⟨f_open_roads, fd_open_roads, G_open_roads, mg_open_roads, kp_open_roads, b_open_roads⟩ := g_open_roads.ex
  refine fnD false [false, false, false] F sc_prices_by rfl ?_
  intro cdv hcv A outer s H E C hT hW hgd hr
  have tk := takes_of (X := cxOf (L2.CX P w) P w K mg base N_prices_by "prices_by" (defScope s_prices_by) f cdv A outer s H E) (E := E) rfl rfl rfl rfl
  have hp := passes_of (X := cxOf (L2.CX P w) P w K mg base N_prices_by "prices_by" (defScope s_prices_by) f cdv A outer s H E) rfl
  exact (fss_cons (fs_set (i := 3) sc_prices_by.nd rfl (by first | exact Or.inl rfl | exact Or.inr rfl) (fe_dic1 (i := 1) pe_int (fun _ _ => .int _)))
      (fss_cons (fs_set (i := 4) sc_prices_by.nd rfl (by first | exact Or.inl rfl | exact Or.inr rfl) (fe_call G_open_roads hT hgd (hr.mono (by decide : 1 ≤ 1)) tk (by rfl) mg_open_roads kp_open_roads b_open_roads (fa_cons (fe_var 0) (fa_cons (fe_var 2) fa_nil))))
      (fss_cons (fs_for hp rfl (fi_rng1 (by rfl) T.n_range (fa_cons (fe_ix i_ix (fe_var 0) fe_int (fun _ _ => rfl)) fa_nil)) (fg_nm sc_prices_by.nd rfl (by first | exact Or.inl rfl | exact Or.inr rfl)) (fss_one (fs_for hp rfl (fi_seq (fe_var 4)) (fg_tp rfl (fgs_cons (fg_nm sc_prices_by.nd rfl (by first | exact Or.inl rfl | exact Or.inr rfl)) (fgs_cons (fg_nm sc_prices_by.nd rfl (by first | exact Or.inl rfl | exact Or.inr rfl)) (fgs_cons (fg_nm sc_prices_by.nd rfl (by first | exact Or.inl rfl | exact Or.inr rfl)) (fgs_cons (fg_nm sc_prices_by.nd rfl (by first | exact Or.inl rfl | exact Or.inr rfl)) fgs_nil))))) (fss_one (fs_if (ft_w (fw_and (ft_cmp (o_din hr.u65) (fe_var 7) (fe_var 3) (by with_unfolding_all rfl)) (fw_and1 (ft_w (fw_or (ft_cmp (o_dnotin hr.u65) (fe_var 6) (fe_var 3) (by with_unfolding_all rfl)) (fw_or1 (ft_cmp o_gt (fe_dix hr.u65 (fe_var 3) (fe_var 6)) (fe_op o_add (fe_var 8) (fe_dix hr.u65 (fe_var 3) (fe_var 7))) (nomark _)))))))) (fss_one (fs_dput hr.u65 (fe_var 3) (fe_var 6) (fe_op o_add (fe_var 8) (fe_dix hr.u65 (fe_var 3) (fe_var 7))))) fss_nil)))))
      (fss_one (fs_ret (fe_callTy c_tuple (by rfl) T.n_tuple (by decide +kernel) (fa_cons (fe_comp (own := [("place", 10)]) rfl sc_prices_by.nd (fi_rng1 (by rfl) T.n_range (fa_cons (fe_ix i_ix (fe_var 0) fe_int (fun _ _ => rfl)) fa_nil)) (blkOk_by (own := [("place", 10)]) (N := N_prices_by) (sc := defScope s_prices_by) (by decide +kernel)) (fun _ _ _ _ _ => (fg_nm sc_prices_by.nd rfl (by first | exact Or.inl rfl | exact Or.inr rfl))) (fun _ hT1 _ _ _ _ _ => fts_nil) (fun _ hT1 _ _ _ _ _ => (fe_dget2 hr.u65 (fe_var 3) (fe_var 10) pe_non))) fa_nil)))))))
theorem ok_prices_by {f : Addr} {fd : FuncData} (T : Tx K mg) (g_open_roads : Q_open_roads P w K mg base TT) (F : Fun K "prices_by" "prices_by" s_prices_by f fd) (hm : mg "prices_by" = some (.ref f)) : Q_prices_by P w K mg base TT :=
  ⟨⟨f, fd, own_prices_by T g_open_roads F, hm, F.kp, F.binds fun _ _ _ _ _ _ us hl => match us, hl with | [_, _, _], _ => rfl⟩⟩
abbrev s_prices_of : Stmt := topS 48
abbrev N_prices_of : List Str := ["net", "goal", "shut"]
theorem sc_prices_of : FnScope N_prices_of ["net", "goal", "shut"] (defScope s_prices_of) := ⟨rfl, rfl, rfl, by decide +kernel, rfl, by decide +kernel, by decide +kernel⟩
abbrev sh_prices_of : List Shp := [(2, [], [.ix 0, .ix 1, .df 0 (.tuple [])])]
abbrev dl_prices_of : List (Str × PyData) := [("shut", (.tuple []))]
abbrev Q_prices_of (P : Program) (w : World) (K : PySem.W.Frag) (mg : Str → Option Value) (base : Heap) (TT : List (Addr × Str)) : Prop := CalK P w K mg base "prices_of" 5 ["net", "goal", "shut"] (spOf K mg TT false [false, false, false] m_prices_of) sh_prices_of
theorem own_prices_of {f : Addr} {fd : FuncData} (T : Tx K mg) (g_need_net : Q_need_net P w K mg base TT) (g_need_place : Q_need_place P w K mg base TT) (g_need_shut : Q_need_shut P w K mg base TT) (g_prices_by : Q_prices_by P w K mg base TT) (F : Fun K "prices_of" "prices_of" s_prices_of f fd) : FnG P w K mg base (L2.CX P w) 5 f fd ["net", "goal", "shut"] (spOf K mg TT false [false, false, false] m_prices_of) := by
  obtain ⟨f_need_net, fd_need_net, G_need_net, mg_need_net, kp_need_net, b_need_net⟩ := g_need_net.ex
  obtain ⟨f_need_place, fd_need_place, G_need_place, mg_need_place, kp_need_place, b_need_place⟩ := g_need_place.ex
  obtain ⟨f_need_shut, fd_need_shut, G_need_shut, mg_need_shut, kp_need_shut, b_need_shut⟩ := g_need_shut.ex
  obtain ⟨f_prices_by, fd_prices_by, G_prices_by, mg_prices_by, kp_prices_by, b_prices_by⟩ := g_prices_by.ex
  refine fnD false [false, false, false] F sc_prices_of rfl ?_
  intro cdv hcv A outer s H E C hT hW hgd hr
  have tk := takes_of (X := cxOf (L2.CX P w) P w K mg base N_prices_of "prices_of" (defScope s_prices_of) f cdv A outer s H E) (E := E) rfl rfl rfl rfl
  have hp := passes_of (X := cxOf (L2.CX P w) P w K mg base N_prices_of "prices_of" (defScope s_prices_of) f cdv A outer s H E) rfl
  exact (fss_cons (fs_exp (fe_call G_need_net hT hgd (hr.mono (by decide : 4 ≤ 4)) tk (by rfl) mg_need_net kp_need_net b_need_net (fa_cons (fe_var 0) fa_nil)))
      (fss_cons (fs_exp (fe_call G_need_place hT hgd (hr.mono (by decide : 3 ≤ 4)) tk (by rfl) mg_need_place kp_need_place b_need_place (fa_cons (fe_var 0) (fa_cons (fe_var 1) fa_nil))))
      (fss_cons (fs_exp (fe_call G_need_shut hT hgd (hr.mono (by decide : 3 ≤ 4)) tk (by rfl) mg_need_shut kp_need_shut b_need_shut (fa_cons (fe_var 0) (fa_cons (fe_var 1) (fa_cons (fe_var 2) fa_nil)))))
      (fss_one (fs_ret (fe_call G_prices_by hT hgd (hr.mono (by decide : 2 ≤ 4)) tk (by rfl) mg_prices_by kp_prices_by b_prices_by (fa_cons (fe_var 0) (fa_cons (fe_var 1) (fa_cons (fe_var 2) fa_nil)))))))))
theorem ok_prices_of {f : Addr} {fd : FuncData} (T : Tx K mg) (g_need_net : Q_need_net P w K mg base TT) (g_need_place : Q_need_place P w K mg base TT) (g_need_shut : Q_need_shut P w K mg base TT) (g_prices_by : Q_prices_by P w K mg base TT) (F : Fun K "prices_of" "prices_of" s_prices_of f fd) (kd : KwD K fd dl_prices_of) (hm : mg "prices_of" = some (.ref f)) : Q_prices_of P w K mg base TT := by
  refine ⟨⟨f, fd, own_prices_of T g_need_net g_need_place g_need_shut g_prices_by F, hm, F.kp, fun sh m => ?_⟩⟩
  simp only [sh_prices_of, List.mem_cons, List.not_mem_nil, or_false] at m
  rcases m with rfl
  · refine shape_df F kd [("shut", (.tuple []))] (by simp [dl_prices_of]) (by simp [dl_prices_of]) (fun j d m => ?_) (fun D _ _ _ _ _ us ws mv l1 l2 l3 => match us, ws, mv, l1, l2, l3 with | [_, _], [], [_], _, _, _ => ⟨_, _, _, _, _, _, rfl, rfl, rfl⟩)
    simp only [List.mem_cons, List.not_mem_nil, or_false, reduceCtorEq, false_or, Ar.df.injEq] at m
    rcases m with ⟨rfl, rfl⟩ <;> exact ⟨_, rfl⟩
abbrev s_does_hold : Stmt := topS 49
abbrev N_does_hold : List Str := ["prices", "road", "one", "other", "cost", "time"]
theorem sc_does_hold : FnScope N_does_hold ["prices", "road"] (defScope s_does_hold) := ⟨rfl, rfl, rfl, by decide +kernel, rfl, by decide +kernel, by decide +kernel⟩
abbrev Q_does_hold (P : Program) (w : World) (K : PySem.W.Frag) (mg : Str → Option Value) (base : Heap) (TT : List (Addr × Str)) : Prop := Cal P w K mg base "does_hold" 1 ["prices", "road"] (spOf K mg TT false [false, false] m_does_hold)
theorem own_does_hold {f : Addr} {fd : FuncData} (T : Tx K mg) (F : Fun K "does_hold" "does_hold" s_does_hold f fd) : FnG P w K mg base (L2.CX P w) 1 f fd ["prices", "road"] (spOf K mg TT false [false, false] m_does_hold) := by
  refine fnD false [false, false] F sc_does_hold rfl ?_
  intro cdv hcv A outer s H E C hT hW hgd hr
  have tk := takes_of (X := cxOf (L2.CX P w) P w K mg base N_does_hold "does_hold" (defScope s_does_hold) f cdv A outer s H E) (E := E) rfl rfl rfl rfl
  have hp := passes_of (X := cxOf (L2.CX P w) P w K mg base N_does_hold "does_hold" (defScope s_does_hold) f cdv A outer s H E) rfl
  exact (fss_cons (fs_asg (fe_var 1) (fg_tp rfl (fgs_cons (fg_nm sc_does_hold.nd rfl (by first | exact Or.inl rfl | exact Or.inr rfl)) (fgs_cons (fg_nm sc_does_hold.nd rfl (by first | exact Or.inl rfl | exact Or.inr rfl)) (fgs_cons (fg_nm sc_does_hold.nd rfl (by first | exact Or.inl rfl | exact Or.inr rfl)) (fgs_cons (fg_nm sc_does_hold.nd rfl (by first | exact Or.inl rfl | exact Or.inr rfl)) fgs_nil))))))
      (fss_cons (fs_if (ft_cmp o_is (fe_ix i_ix (fe_var 0) (fe_var 3) (fun _ _ => rfl)) fe_non (nomark _)) (fss_one (fs_ret fe_bl)) fss_nil)
      (fss_one (fs_ret (fe_and (fe_cmp o_isnot (fe_ix i_ix (fe_var 0) (fe_var 2) (fun _ _ => rfl)) fe_non (nomark _)) (fe_one (fe_cmp o_le (fe_ix i_ix (fe_var 0) (fe_var 2) (fun _ _ => rfl)) (fe_op o_add (fe_var 4) (fe_ix i_ix (fe_var 0) (fe_var 3) (fun _ _ => rfl))) (nomark _))))))))
theorem ok_does_hold {f : Addr} {fd : FuncData} (T : Tx K mg) (F : Fun K "does_hold" "does_hold" s_does_hold f fd) (hm : mg "does_hold" = some (.ref f)) : Q_does_hold P w K mg base TT :=
  ⟨⟨f, fd, own_does_hold T F, hm, F.kp, F.binds fun _ _ _ _ _ _ us hl => match us, hl with | [_, _], _ => rfl⟩⟩
abbrev s_prices_hold : Stmt := topS 50
abbrev N_prices_hold : List Str := ["net", "goal", "thing", "shut", "road", "place", "price"]
theorem sc_prices_hold : FnScope N_prices_hold ["net", "goal", "thing", "shut"] (defScope s_prices_hold) := ⟨rfl, rfl, rfl, by decide +kernel, rfl, by decide +kernel, by decide +kernel⟩
abbrev Q_prices_hold (P : Program) (w : World) (K : PySem.W.Frag) (mg : Str → Option Value) (base : Heap) (TT : List (Addr × Str)) : Prop := Cal P w K mg base "prices_hold" 2 ["net", "goal", "thing", "shut"] (spOf K mg TT false [false, false, false, false] m_prices_hold)
theorem own_prices_hold {f : Addr} {fd : FuncData} (T : Tx K mg) (g_is_whole : Q_is_whole P w K mg base TT) (g_open_roads : Q_open_roads P w K mg base TT) (g_does_hold : Q_does_hold P w K mg base TT) (F : Fun K "prices_hold" "prices_hold" s_prices_hold f fd) : FnG P w K mg base (L2.CX P w) 2 f fd ["net", "goal", "thing", "shut"] (spOf K mg TT false [false, false, false, false] m_prices_hold) := by
  obtain ⟨f_is_whole, fd_is_whole, G_is_whole, mg_is_whole, kp_is_whole, b_is_whole⟩ := g_is_whole.ex
  obtain ⟨f_open_roads, fd_open_roads, G_open_roads, mg_open_roads, kp_open_roads, b_open_roads⟩ := g_open_roads.ex
  obtain ⟨f_does_hold, fd_does_hold, G_does_hold, mg_does_hold, kp_does_hold, b_does_hold⟩ := g_does_hold.ex
  refine fnD false [false, false, false, false] F sc_prices_hold rfl ?_
  intro cdv hcv A outer s H E C hT hW hgd hr
  have tk := takes_of (X := cxOf (L2.CX P w) P w K mg base N_prices_hold "prices_hold" (defScope s_prices_hold) f cdv A outer s H E) (E := E) rfl rfl rfl rfl
  have hp := passes_of (X := cxOf (L2.CX P w) P w K mg base N_prices_hold "prices_hold" (defScope s_prices_hold) f cdv A outer s H E) rfl
  exact (fss_cons (fs_if (ft_w (fw_or (ft_not (ft_val (fe_isa (c := "tuple") (by decide) (by rfl) T.n_isinstance (by rfl) T.n_tuple (by decide +kernel) (fe_var 2)))) (fw_or1 (ft_cmp (o_ne hr.units) (fe_callB c_len (by rfl) T.n_len (by decide +kernel) (fa_cons (fe_var 2) fa_nil)) (fe_ix i_ix (fe_var 0) fe_int (fun _ _ => rfl)) (nomark _))))) (fss_one (fs_ret fe_bl)) fss_nil)
      (fss_cons (fs_if (ft_w (fw_or (ft_not (ft_val (fe_callB (c_all rfl) (by rfl) T.n_all (by decide +kernel) (fa_cons (fe_comp (own := [("price", 6)]) rfl sc_prices_hold.nd (fi_seq (fe_var 2)) (blkOk_by (own := [("price", 6)]) (N := N_prices_hold) (sc := defScope s_prices_hold) (by decide +kernel)) (fun _ _ _ _ _ => (fg_nm sc_prices_hold.nd rfl (by first | exact Or.inl rfl | exact Or.inr rfl))) (fun _ hT1 _ _ _ _ _ => fts_nil) (fun _ hT1 _ _ _ _ _ => (fe_or (fe_cmp o_is (fe_var 6) fe_non (nomark _)) (fe_one (fe_and (fe_call G_is_whole (hT1.trans hT) hgd (hr.mono (by decide : 1 ≤ 1)) takes0 (by rfl) mg_is_whole kp_is_whole b_is_whole (fa_cons (fe_var 6) fa_nil)) (fe_one (fe_cmp o_ge (fe_var 6) fe_int (nomark _)))))))) fa_nil)))) (fw_or1 (ft_cmp (o_ne hr.units) (fe_ix i_ix (fe_var 2) (fe_var 1) (fun _ _ => rfl)) fe_int (nomark _))))) (fss_one (fs_ret fe_bl)) fss_nil)
      (fss_cons (fs_if (ft_not (ft_val (fe_callB (c_all rfl) (by rfl) T.n_all (by decide +kernel) (fa_cons (fe_comp (own := [("place", 5)]) rfl sc_prices_hold.nd (fi_seq (fe_var 3)) (blkOk_by (own := [("place", 5)]) (N := N_prices_hold) (sc := defScope s_prices_hold) (by decide +kernel)) (fun _ _ _ _ _ => (fg_nm sc_prices_hold.nd rfl (by first | exact Or.inl rfl | exact Or.inr rfl))) (fun _ hT1 _ _ _ _ _ => fts_nil) (fun _ hT1 _ _ _ _ _ => (fe_cmp o_is (fe_ix i_ix (fe_var 2) (fe_var 5) (fun _ _ => rfl)) fe_non (nomark _)))) fa_nil)))) (fss_one (fs_ret fe_bl)) fss_nil)
      (fss_one (fs_ret (fe_callB (c_all rfl) (by rfl) T.n_all (by decide +kernel) (fa_cons (fe_comp (own := [("road", 4)]) rfl sc_prices_hold.nd (fi_seq (fe_call G_open_roads hT hgd (hr.mono (by decide : 1 ≤ 1)) tk (by rfl) mg_open_roads kp_open_roads b_open_roads (fa_cons (fe_var 0) (fa_cons (fe_var 3) fa_nil)))) (blkOk_by (own := [("road", 4)]) (N := N_prices_hold) (sc := defScope s_prices_hold) (by decide +kernel)) (fun _ _ _ _ _ => (fg_nm sc_prices_hold.nd rfl (by first | exact Or.inl rfl | exact Or.inr rfl))) (fun _ hT1 _ _ _ _ _ => fts_nil) (fun _ hT1 _ _ _ _ _ => (fe_call G_does_hold (hT1.trans hT) hgd (hr.mono (by decide : 1 ≤ 1)) takes0 (by rfl) mg_does_hold kp_does_hold b_does_hold (fa_cons (fe_var 2) (fa_cons (fe_var 4) fa_nil))))) fa_nil)))))))
theorem ok_prices_hold {f : Addr} {fd : FuncData} (T : Tx K mg) (g_is_whole : Q_is_whole P w K mg base TT) (g_open_roads : Q_open_roads P w K mg base TT) (g_does_hold : Q_does_hold P w K mg base TT) (F : Fun K "prices_hold" "prices_hold" s_prices_hold f fd) (hm : mg "prices_hold" = some (.ref f)) : Q_prices_hold P w K mg base TT :=
  ⟨⟨f, fd, own_prices_hold T g_is_whole g_open_roads g_does_hold F, hm, F.kp, F.binds fun _ _ _ _ _ _ us hl => match us, hl with | [_, _, _, _], _ => rfl⟩⟩
abbrev s_are_prices : Stmt := topS 51
abbrev N_are_prices : List Str := ["net", "goal", "thing", "shut"]
theorem sc_are_prices : FnScope N_are_prices ["net", "goal", "thing", "shut"] (defScope s_are_prices) := ⟨rfl, rfl, rfl, by decide +kernel, rfl, by decide +kernel, by decide +kernel⟩
abbrev sh_are_prices : List Shp := [(3, [], [.ix 0, .ix 1, .ix 2, .df 0 (.tuple [])])]
abbrev dl_are_prices : List (Str × PyData) := [("shut", (.tuple []))]
abbrev Q_are_prices (P : Program) (w : World) (K : PySem.W.Frag) (mg : Str → Option Value) (base : Heap) (TT : List (Addr × Str)) : Prop := CalK P w K mg base "are_prices" 5 ["net", "goal", "thing", "shut"] (spOf K mg TT false [false, false, false, false] m_are_prices) sh_are_prices
theorem own_are_prices {f : Addr} {fd : FuncData} (T : Tx K mg) (g_need_net : Q_need_net P w K mg base TT) (g_need_place : Q_need_place P w K mg base TT) (g_need_shut : Q_need_shut P w K mg base TT) (g_prices_hold : Q_prices_hold P w K mg base TT) (F : Fun K "are_prices" "are_prices" s_are_prices f fd) : FnG P w K mg base (L2.CX P w) 5 f fd ["net", "goal", "thing", "shut"] (spOf K mg TT false [false, false, false, false] m_are_prices) := by
  obtain ⟨f_need_net, fd_need_net, G_need_net, mg_need_net, kp_need_net, b_need_net⟩ := g_need_net.ex
  obtain ⟨f_need_place, fd_need_place, G_need_place, mg_need_place, kp_need_place, b_need_place⟩ := g_need_place.ex
  obtain ⟨f_need_shut, fd_need_shut, G_need_shut, mg_need_shut, kp_need_shut, b_need_shut⟩ := g_need_shut.ex
  obtain ⟨f_prices_hold, fd_prices_hold, G_prices_hold, mg_prices_hold, kp_prices_hold, b_prices_hold⟩ := g_prices_hold.ex
  refine fnD false [false, false, false, false] F sc_are_prices rfl ?_
  intro cdv hcv A outer s H E C hT hW hgd hr
  have tk := takes_of (X := cxOf (L2.CX P w) P w K mg base N_are_prices "are_prices" (defScope s_are_prices) f cdv A outer s H E) (E := E) rfl rfl rfl rfl
  have hp := passes_of (X := cxOf (L2.CX P w) P w K mg base N_are_prices "are_prices" (defScope s_are_prices) f cdv A outer s H E) rfl
  exact (fss_cons (fs_exp (fe_call G_need_net hT hgd (hr.mono (by decide : 4 ≤ 4)) tk (by rfl) mg_need_net kp_need_net b_need_net (fa_cons (fe_var 0) fa_nil)))
      (fss_cons (fs_exp (fe_call G_need_place hT hgd (hr.mono (by decide : 3 ≤ 4)) tk (by rfl) mg_need_place kp_need_place b_need_place (fa_cons (fe_var 0) (fa_cons (fe_var 1) fa_nil))))
      (fss_cons (fs_exp (fe_call G_need_shut hT hgd (hr.mono (by decide : 3 ≤ 4)) tk (by rfl) mg_need_shut kp_need_shut b_need_shut (fa_cons (fe_var 0) (fa_cons (fe_var 1) (fa_cons (fe_var 3) fa_nil)))))
      (fss_one (fs_ret (fe_call G_prices_hold hT hgd (hr.mono (by decide : 2 ≤ 4)) tk (by rfl) mg_prices_hold kp_prices_hold b_prices_hold (fa_cons (fe_var 0) (fa_cons (fe_var 1) (fa_cons (fe_var 2) (fa_cons (fe_var 3) fa_nil))))))))))
theorem ok_are_prices {f : Addr} {fd : FuncData} (T : Tx K mg) (g_need_net : Q_need_net P w K mg base TT) (g_need_place : Q_need_place P w K mg base TT) (g_need_shut : Q_need_shut P w K mg base TT) (g_prices_hold : Q_prices_hold P w K mg base TT) (F : Fun K "are_prices" "are_prices" s_are_prices f fd) (kd : KwD K fd dl_are_prices) (hm : mg "are_prices" = some (.ref f)) : Q_are_prices P w K mg base TT := by
  refine ⟨⟨f, fd, own_are_prices T g_need_net g_need_place g_need_shut g_prices_hold F, hm, F.kp, fun sh m => ?_⟩⟩
  simp only [sh_are_prices, List.mem_cons, List.not_mem_nil, or_false] at m
  rcases m with rfl
  · refine shape_df F kd [("shut", (.tuple []))] (by simp [dl_are_prices]) (by simp [dl_are_prices]) (fun j d m => ?_) (fun D _ _ _ _ _ us ws mv l1 l2 l3 => match us, ws, mv, l1, l2, l3 with | [_, _, _], [], [_], _, _, _ => ⟨_, _, _, _, _, _, rfl, rfl, rfl⟩)
    simp only [List.mem_cons, List.not_mem_nil, or_false, reduceCtorEq, false_or, Ar.df.injEq] at m
    rcases m with ⟨rfl, rfl⟩ <;> exact ⟨_, rfl⟩
abbrev s__law_cell_at : Stmt := topS 53
abbrev N__law_cell_at : List Str := ["_law_script", "_law_k"]
theorem sc__law_cell_at : FnScope N__law_cell_at ["_law_script", "_law_k"] (defScope s__law_cell_at) := ⟨rfl, rfl, rfl, by decide +kernel, rfl, by decide +kernel, by decide +kernel⟩
abbrev Q__law_cell_at (P : Program) (w : World) (K : PySem.W.Frag) (mg : Str → Option Value) (base : Heap) (TT : List (Addr × Str)) : Prop := Cal P w K mg base "_law_cell_at" 1 ["_law_script", "_law_k"] (spOf K mg TT false [false, false] m__law_cell_at)
theorem own__law_cell_at {f : Addr} {fd : FuncData} (T : Tx K mg) (F : Fun K "_law_cell_at" "_law_cell_at" s__law_cell_at f fd) : FnG P w K mg base (L2.CX P w) 1 f fd ["_law_script", "_law_k"] (spOf K mg TT false [false, false] m__law_cell_at) := by
  refine fnD false [false, false] F sc__law_cell_at rfl ?_
  intro cdv hcv A outer s H E C hT hW hgd hr
  have tk := takes_of (X := cxOf (L2.CX P w) P w K mg base N__law_cell_at "_law_cell_at" (defScope s__law_cell_at) f cdv A outer s H E) (E := E) rfl rfl rfl rfl
  have hp := passes_of (X := cxOf (L2.CX P w) P w K mg base N__law_cell_at "_law_cell_at" (defScope s__law_cell_at) f cdv A outer s H E) rfl
  exact (fss_cons (fs_if (ft_cmp o_lt (fe_var 1) (fe_callB c_len (by rfl) T.n_len (by decide +kernel) (fa_cons (fe_var 0) fa_nil)) (nomark _)) (fss_one (fs_ret (fe_ix i_ix (fe_var 0) (fe_var 1) (fun _ _ => rfl)))) fss_nil)
      (fss_one (fs_ret fe_int)))
theorem ok__law_cell_at {f : Addr} {fd : FuncData} (T : Tx K mg) (F : Fun K "_law_cell_at" "_law_cell_at" s__law_cell_at f fd) (hm : mg "_law_cell_at" = some (.ref f)) : Q__law_cell_at P w K mg base TT :=
  ⟨⟨f, fd, own__law_cell_at T F, hm, F.kp, F.binds fun _ _ _ _ _ _ us hl => match us, hl with | [_, _], _ => rfl⟩⟩
abbrev s__law_state : Stmt := topS 54
abbrev N__law_state : List Str := ["_law_script", "_law_k", "_law_cell"]
theorem sc__law_state : FnScope N__law_state ["_law_script", "_law_k"] (defScope s__law_state) := ⟨rfl, rfl, rfl, by decide +kernel, rfl, by decide +kernel, by decide +kernel⟩
abbrev Q__law_state (P : Program) (w : World) (K : PySem.W.Frag) (mg : Str → Option Value) (base : Heap) (TT : List (Addr × Str)) : Prop := Cal P w K mg base "_law_state" 2 ["_law_script", "_law_k"] (spOf K mg TT true [false, false] m__law_state)
theorem own__law_state {f : Addr} {fd : FuncData} (T : Tx K mg) (g__law_cell_at : Q__law_cell_at P w K mg base TT) (F : Fun K "_law_state" "_law_state" s__law_state f fd) : FnG P w K mg base (L2.CX P w) 2 f fd ["_law_script", "_law_k"] (spOf K mg TT true [false, false] m__law_state) := by
  obtain ⟨f__law_cell_at, fd__law_cell_at, G__law_cell_at, mg__law_cell_at, kp__law_cell_at, b__law_cell_at⟩ := g__law_cell_at.ex
  refine fnD true [false, false] F sc__law_state rfl ?_
  intro cdv hcv A outer s H E C hT hW hgd hr
  have tk := takes_of (X := cxOf (L2.CX P w) P w K mg base N__law_state "_law_state" (defScope s__law_state) f cdv A outer s H E) (E := E) rfl rfl rfl rfl
  have hp := passes_of (X := cxOf (L2.CX P w) P w K mg base N__law_state "_law_state" (defScope s__law_state) f cdv A outer s H E) rfl
  exact (fss_cons (fs_set (i := 2) sc__law_state.nd rfl (by first | exact Or.inl rfl | exact Or.inr rfl) (fe_call G__law_cell_at hT hgd (hr.mono (by decide : 1 ≤ 1)) tk (by rfl) mg__law_cell_at kp__law_cell_at b__law_cell_at (fa_cons (fe_var 0) (fa_cons (fe_var 1) fa_nil))))
      (fss_one (fs_ret (fe_new (fa_cons (fe_callB (c_max2 rfl) (by rfl) T.n_max (by decide +kernel) (fa_cons fe_int (fa_cons (fe_op o_sub (fe_var 2) (fe_op o_pow fe_int fe_int)) fa_nil))) (fa_cons (fe_op o_mod (fe_var 2) fe_int) fa_nil))))))
theorem ok__law_state {f : Addr} {fd : FuncData} (T : Tx K mg) (g__law_cell_at : Q__law_cell_at P w K mg base TT) (F : Fun K "_law_state" "_law_state" s__law_state f fd) (hm : mg "_law_state" = some (.ref f)) : Q__law_state P w K mg base TT :=
  ⟨⟨f, fd, own__law_state T g__law_cell_at F, hm, F.kp, F.binds fun _ _ _ _ _ _ us hl => match us, hl with | [_, _], _ => rfl⟩⟩
abbrev s__law_take : Stmt := topS 55
abbrev N__law_take : List Str := ["_law_state_here", "_law_much", "_law_found", "_law_stirred"]
theorem sc__law_take : FnScope N__law_take ["_law_state_here", "_law_much"] (defScope s__law_take) := ⟨rfl, rfl, rfl, by decide +kernel, rfl, by decide +kernel, by decide +kernel⟩
abbrev Q__law_take (P : Program) (w : World) (K : PySem.W.Frag) (mg : Str → Option Value) (base : Heap) (TT : List (Addr × Str)) : Prop := Cal P w K mg base "_law_take" 1 ["_law_state_here", "_law_much"] (spOf K mg TT false [true, false] m__law_take)
theorem own__law_take {f : Addr} {fd : FuncData} (T : Tx K mg) (F : Fun K "_law_take" "_law_take" s__law_take f fd) : FnG P w K mg base (L2.CX P w) 1 f fd ["_law_state_here", "_law_much"] (spOf K mg TT false [true, false] m__law_take) := by
  refine fnD false [true, false] F sc__law_take rfl ?_
  intro cdv hcv A outer s H E C hT hW hgd hr
  have tk := takes_of (X := cxOf (L2.CX P w) P w K mg base N__law_take "_law_take" (defScope s__law_take) f cdv A outer s H E) (E := E) rfl rfl rfl rfl
  have hp := passes_of (X := cxOf (L2.CX P w) P w K mg base N__law_take "_law_take" (defScope s__law_take) f cdv A outer s H E) rfl
  exact (fss_cons (fs_if (ft_cmp o_gt (fe_ix i_ix (fe_var 0) fe_int (fun _ _ => rfl)) fe_int (nomark _)) (fss_cons (fs_set (i := 2) sc__law_take.nd rfl (by first | exact Or.inl rfl | exact Or.inr rfl) (fe_op o_mod (fe_ix i_ix (fe_var 0) fe_int (fun _ _ => rfl)) (fe_var 1)))
      (fss_cons (fs_put (fe_var 0) fe_int (fe_op o_div (fe_ix i_ix (fe_var 0) fe_int (fun _ _ => rfl)) (fe_var 1)))
      (fss_one (fs_ret (fe_var 2))))) fss_nil)
      (fss_cons (fs_put (fe_var 0) fe_int (fe_op o_mod (fe_op o_add (fe_op o_mul (fe_ix i_ix (fe_var 0) fe_int (fun _ _ => rfl)) fe_int) fe_int) fe_int))
      (fss_cons (fs_set (i := 3) sc__law_take.nd rfl (by first | exact Or.inl rfl | exact Or.inr rfl) (fe_op o_mod (fe_op o_add (fe_op o_add (fe_op o_mul (fe_ix i_ix (fe_var 0) fe_int (fun _ _ => rfl)) (fe_ix i_ix (fe_var 0) fe_int (fun _ _ => rfl))) (fe_op o_mul fe_int (fe_ix i_ix (fe_var 0) fe_int (fun _ _ => rfl)))) fe_int) fe_int))
      (fss_cons (fs_set (i := 3) sc__law_take.nd rfl (by first | exact Or.inl rfl | exact Or.inr rfl) (fe_op o_mod (fe_op o_add (fe_op o_mul (fe_var 3) (fe_var 3)) (fe_op o_mul fe_int (fe_var 3))) fe_int))
      (fss_one (fs_ret (fe_op o_mod (fe_op o_div (fe_var 3) fe_int) (fe_var 1))))))))
theorem ok__law_take {f : Addr} {fd : FuncData} (T : Tx K mg) (F : Fun K "_law_take" "_law_take" s__law_take f fd) (hm : mg "_law_take" = some (.ref f)) : Q__law_take P w K mg base TT :=
  ⟨⟨f, fd, own__law_take T F, hm, F.kp, F.binds fun _ _ _ _ _ _ us hl => match us, hl with | [_, _], _ => rfl⟩⟩
abbrev s__law_marks : Stmt := topS 56
abbrev N__law_marks : List Str := ["_law_e", "_law_marks_here"]
theorem sc__law_marks : FnScope N__law_marks ["_law_e"] (defScope s__law_marks) := ⟨rfl, rfl, rfl, by decide +kernel, rfl, by decide +kernel, by decide +kernel⟩
abbrev Q__law_marks (P : Program) (w : World) (K : PySem.W.Frag) (mg : Str → Option Value) (base : Heap) (TT : List (Addr × Str)) : Prop := ∃ (f : Addr) (fd : FuncData), FnW P w K mg base TT 1 f fd "_law_e" ys_ m__law_marks ∧ mg "_law_marks" = some (.ref f) ∧ PySem.W.keepIn K (.ref f) = true ∧ Binds K fd ["_law_e"] []
theorem own__law_marks {f : Addr} {fd : FuncData} (T : Tx K mg) (F : Fun K "_law_marks" "_law_marks" s__law_marks f fd) : FnW P w K mg base TT 1 f fd "_law_e" ys_ m__law_marks := by
  refine fnW F sc__law_marks ?_
  intro cdv A outer s H p x D C hT hgd hr hh hx
  have hk := hx.kit
  exact (fss_cons (fs_set (i := 1) sc__law_marks.nd rfl (by first | exact Or.inl rfl | exact Or.inr rfl) (fe_lst (fa_cons (fe_isE hh (hk _ (by decide)) (by rfl) T.n_isinstance (by rfl)) (fa_cons (fe_isE hh (hk _ (by decide)) (by rfl) T.n_isinstance (by rfl)) (fa_cons (fe_isE hh (hk _ (by decide)) (by rfl) T.n_isinstance (by rfl)) (fa_cons (fe_isE hh (hk _ (by decide)) (by rfl) T.n_isinstance (by rfl)) fa_nil))))))
      (fss_cons (fs_set (i := 1) sc__law_marks.nd rfl (by first | exact Or.inl rfl | exact Or.inr rfl) (fe_op o_add (fe_var 1) (fe_lst (fa_cons (fe_isE hh (hk _ (by decide)) (by rfl) T.n_isinstance (by rfl)) (fa_cons (fe_isE hh (hk _ (by decide)) (by rfl) T.n_isinstance (by rfl)) (fa_cons (fe_isE hh (hk _ (by decide)) (by rfl) T.n_isinstance (by rfl)) (fa_cons (fe_isE hh (hk _ (by decide)) (by rfl) T.n_isinstance (by rfl)) fa_nil)))))))
      (fss_cons (fs_set (i := 1) sc__law_marks.nd rfl (by first | exact Or.inl rfl | exact Or.inr rfl) (fe_op o_add (fe_var 1) (fe_lst (fa_cons (fe_isE hh (hk _ (by decide)) (by rfl) T.n_isinstance (by rfl)) (fa_cons (fe_isE hh (hk _ (by decide)) (by rfl) T.n_isinstance (by rfl)) (fa_cons (fe_isE hh (hk _ (by decide)) (by rfl) T.n_isinstance (by rfl)) (fa_cons (fe_isE hh (hk _ (by decide)) (by rfl) T.n_isinstance (by rfl)) fa_nil)))))))
      (fss_cons (fs_set (i := 1) sc__law_marks.nd rfl (by first | exact Or.inl rfl | exact Or.inr rfl) (fe_op o_add (fe_var 1) (fe_lst (fa_cons (fe_isE hh (hk _ (by decide)) (by rfl) T.n_isinstance (by rfl)) (fa_cons (fe_isE hh (hk _ (by decide)) (by rfl) T.n_isinstance (by rfl)) (fa_cons (fe_isE hh (hk _ (by decide)) (by rfl) T.n_isinstance (by rfl)) (fa_cons (fe_isE hh (hk _ (by decide)) (by rfl) T.n_isinstance (by rfl)) fa_nil)))))))
      (fss_one (fs_ret (fe_op o_add (fe_var 1) (fe_lst (fa_cons (fe_isE hh (hk _ (by decide)) (by rfl) T.n_isinstance (by rfl)) fa_nil)))))))))
theorem ok__law_marks {f : Addr} {fd : FuncData} (T : Tx K mg) (F : Fun K "_law_marks" "_law_marks" s__law_marks f fd) (hm : mg "_law_marks" = some (.ref f)) : Q__law_marks P w K mg base TT :=
  ⟨f, fd, own__law_marks T F, hm, F.kp, F.binds fun _ _ _ _ _ _ us hl => match us, hl with | [_], _ => rfl⟩
abbrev s__law_word : Stmt := topS 57
abbrev N__law_word : List Str := ["_law_e", "_law_marks_here", "_law_at", "_law_words", "_law_word_here"]
theorem sc__law_word : FnScope N__law_word ["_law_e"] (defScope s__law_word) := ⟨rfl, rfl, rfl, by decide +kernel, rfl, by decide +kernel, by decide +kernel⟩
theorem own__law_word {f : Addr} {fd : FuncData} (T : Tx K mg) (g__law_marks : Q__law_marks P w K mg base TT) (F : Fun K "_law_word" "_law_word" s__law_word f fd) : FnW P w K mg base TT 2 f fd "_law_e" ys_ m__law_word := by
  obtain ⟨f__law_marks, fd__law_marks, G__law_marks, mg__law_marks, kp__law_marks, b__law_marks_⟩ := g__law_marks
  refine fnW F sc__law_word ?_
  intro cdv A outer s H p x D C hT hgd hr hh hx
  have hk := hx.kit
  exact (fss_cons (fs_set (i := 1) sc__law_word.nd rfl (by first | exact Or.inl rfl | exact Or.inr rfl) (fe_callW hh hx G__law_marks hT hgd (hr.mono (by decide)) b__law_marks_ (by rfl) mg__law_marks kp__law_marks))
      (fss_cons (fs_if (ft_w (fw_or (ft_cmp (o_ne hr.units) (fe_mt PySem.F.slot_list_count PySem.F.type_list_count m_count (fe_var 1) (fa_cons fe_bl fa_nil)) fe_int (nomark _)) (fw_or1 (ft_not (ft_val (fe_isE hh (hk _ (by decide)) (by rfl) T.n_isinstance (by rfl))))))) (fss_one (fs_ret (fe_tup (fa_cons fe_str fa_nil)))) fss_nil)
      (fss_cons (fs_set (i := 2) sc__law_word.nd rfl (by first | exact Or.inl rfl | exact Or.inr rfl) (fe_mt PySem.F.slot_list_index PySem.F.type_list_index m_index (fe_var 1) (fa_cons fe_bl fa_nil)))
      (fss_cons (fs_if (ft_cmp (o_ne hr.units) (fe_lst (fa_cons (fe_isE hh (hk _ (by decide)) (by rfl) T.n_isinstance (by rfl)) (fa_cons (fe_isE hh (hk _ (by decide)) (by rfl) T.n_isinstance (by rfl)) fa_nil))) (fe_lst (fa_cons (fe_cmp o_lt (fe_var 2) fe_int (nomark _)) (fa_cons (fe_cmp o_gt (fe_var 2) fe_int (nomark _)) fa_nil))) (nomark _)) (fss_one (fs_ret (fe_tup (fa_cons fe_str fa_nil)))) fss_nil)
      (fss_cons (fs_set (i := 3) sc__law_word.nd rfl (by first | exact Or.inl rfl | exact Or.inr rfl) (fe_lst (fa_cons fe_str (fa_cons fe_str (fa_cons fe_str (fa_cons fe_str (fa_cons fe_str (fa_cons fe_str (fa_cons fe_str (fa_cons fe_str (fa_cons fe_str (fa_cons fe_str (fa_cons fe_str (fa_cons fe_str (fa_cons fe_str fa_nil)))))))))))))))
      (fss_cons (fs_set (i := 4) sc__law_word.nd rfl (by first | exact Or.inl rfl | exact Or.inr rfl) (fe_ix i_ix (fe_op o_add (fe_var 3) (fe_lst (fa_cons fe_str (fa_cons fe_str (fa_cons fe_str (fa_cons fe_str fa_nil)))))) (fe_var 2) (fun _ _ => rfl)))
      (fss_cons (fs_if (ft_cmp (o_eq hr.units) (fe_var 4) fe_str (nomark _)) (fss_one fs_never) fss_nil)
      (fss_cons (fs_if (ft_cmp (o_eq hr.units) (fe_var 4) fe_str (nomark _)) (fss_one fs_never) fss_nil)
      (fss_one (fs_ret (fe_if (ft_cmp (o_eq hr.units) (fe_var 4) fe_str (nomark _)) fe_never (fe_tup (fa_cons (fe_var 4) fa_nil)))))))))))))
abbrev s__law_said : Stmt := topS 58
abbrev N__law_said : List Str := ["_law_call", "_law_e"]
theorem sc__law_said : FnScope N__law_said ["_law_call"] (defScope s__law_said) := ⟨rfl, rfl, rfl, by decide +kernel, rfl, by decide +kernel, by decide +kernel⟩
abbrev s__law_number : Stmt := topS 59
abbrev N__law_number : List Str := ["_law_what", "_law_least", "_law_most"]
theorem sc__law_number : FnScope N__law_number ["_law_what", "_law_least", "_law_most"] (defScope s__law_number) := ⟨rfl, rfl, rfl, by decide +kernel, rfl, by decide +kernel, by decide +kernel⟩
abbrev Q__law_number (P : Program) (w : World) (K : PySem.W.Frag) (mg : Str → Option Value) (base : Heap) (TT : List (Addr × Str)) : Prop := Cal P w K mg base "_law_number" 1 ["_law_what", "_law_least", "_law_most"] (spOf K mg TT false [false, false, false] m__law_number)
theorem own__law_number {f : Addr} {fd : FuncData} (T : Tx K mg) (F : Fun K "_law_number" "_law_number" s__law_number f fd) : FnG P w K mg base (L2.CX P w) 1 f fd ["_law_what", "_law_least", "_law_most"] (spOf K mg TT false [false, false, false] m__law_number) := by
  refine fnD false [false, false, false] F sc__law_number rfl ?_
  intro cdv hcv A outer s H E C hT hW hgd hr
  have tk := takes_of (X := cxOf (L2.CX P w) P w K mg base N__law_number "_law_number" (defScope s__law_number) f cdv A outer s H E) (E := E) rfl rfl rfl rfl
  have hp := passes_of (X := cxOf (L2.CX P w) P w K mg base N__law_number "_law_number" (defScope s__law_number) f cdv A outer s H E) rfl
  exact (fss_one (fs_ret (fe_and (fe_isa (c := "int") (by decide) (by rfl) T.n_isinstance (by rfl) T.n_int (by decide +kernel) (fe_var 0)) (fe_and (fe_not (fe_isa (c := "bool") (by decide) (by rfl) T.n_isinstance (by rfl) T.n_bool (by decide +kernel) (fe_var 0))) (fe_one (fe_chain o_le o_le (fe_var 1) (fe_var 0) (fe_var 2)))))))
theorem ok__law_number {f : Addr} {fd : FuncData} (T : Tx K mg) (F : Fun K "_law_number" "_law_number" s__law_number f fd) (hm : mg "_law_number" = some (.ref f)) : Q__law_number P w K mg base TT :=
  ⟨⟨f, fd, own__law_number T F, hm, F.kp, F.binds fun _ _ _ _ _ _ us hl => match us, hl with | [_, _, _], _ => rfl⟩⟩
abbrev s__law_net : Stmt := topS 60
abbrev N__law_net : List Str := ["_law_state_here", "_law_most", "_law_roads", "_law_places", "_law_found", "_law_wide", "_law_turn", "_law_one", "_law_other"]
theorem sc__law_net : FnScope N__law_net ["_law_state_here", "_law_most", "_law_roads"] (defScope s__law_net) := ⟨rfl, rfl, rfl, by decide +kernel, rfl, by decide +kernel, by decide +kernel⟩
abbrev Q__law_net (P : Program) (w : World) (K : PySem.W.Frag) (mg : Str → Option Value) (base : Heap) (TT : List (Addr × Str)) : Prop := Cal P w K mg base "_law_net" 2 ["_law_state_here", "_law_most", "_law_roads"] (spOf K mg TT false [true, false, false] m__law_net)
theorem own__law_net {f : Addr} {fd : FuncData} (T : Tx K mg) (g__law_take : Q__law_take P w K mg base TT) (F : Fun K "_law_net" "_law_net" s__law_net f fd) : FnG P w K mg base (L2.CX P w) 2 f fd ["_law_state_here", "_law_most", "_law_roads"] (spOf K mg TT false [true, false, false] m__law_net) := by
  obtain ⟨f__law_take, fd__law_take, G__law_take, mg__law_take, kp__law_take, b__law_take⟩ := g__law_take.ex
  refine fnD false [true, false, false] F sc__law_net rfl ?_
  intro cdv hcv A outer s H E C hT hW hgd hr
  have tk := takes_of (X := cxOf (L2.CX P w) P w K mg base N__law_net "_law_net" (defScope s__law_net) f cdv A outer s H E) (E := E) rfl rfl rfl rfl
  have hp := passes_of (X := cxOf (L2.CX P w) P w K mg base N__law_net "_law_net" (defScope s__law_net) f cdv A outer s H E) rfl
  exact (fss_cons (fs_par (i := 3) (j := 4) rfl sc__law_net.nd rfl rfl (by decide) rfl rfl (fa_cons (fe_op o_add fe_int (fe_call G__law_take hT hgd (hr.mono (by decide : 1 ≤ 1)) tk (by rfl) mg__law_take kp__law_take b__law_take (fa_cons (fe_var 0) (fa_cons (fe_var 1) fa_nil)))) (fa_cons (fe_new fa_nil) fa_nil)) (by rfl))
      (fss_cons (fs_set (i := 5) sc__law_net.nd rfl (by first | exact Or.inl rfl | exact Or.inr rfl) (fe_ix i_ix (fe_lst (fa_cons fe_int (fa_cons fe_int (fa_cons fe_int fa_nil)))) (fe_call G__law_take hT hgd (hr.mono (by decide : 1 ≤ 1)) tk (by rfl) mg__law_take kp__law_take b__law_take (fa_cons (fe_var 0) (fa_cons fe_int fa_nil))) (fun _ _ => rfl)))
      (fss_cons (fs_for hp rfl (fi_rng1 (by rfl) T.n_range (fa_cons (fe_if (ft_cmp o_gt (fe_var 3) fe_int (nomark _)) (fe_ix i_ix (fe_lst (fa_cons (fe_var 2) (fa_cons (fe_call G__law_take hT hgd (hr.mono (by decide : 1 ≤ 1)) tk (by rfl) mg__law_take kp__law_take b__law_take (fa_cons (fe_var 0) (fa_cons (fe_op o_add (fe_var 2) fe_int) fa_nil))) fa_nil))) (fe_call G__law_take hT hgd (hr.mono (by decide : 1 ≤ 1)) tk (by rfl) mg__law_take kp__law_take b__law_take (fa_cons (fe_var 0) (fa_cons fe_int fa_nil))) (fun _ _ => rfl)) fe_int) fa_nil)) (fg_nm sc__law_net.nd rfl (by first | exact Or.inl rfl | exact Or.inr rfl)) (fss_cons (fs_set (i := 7) sc__law_net.nd rfl (by first | exact Or.inl rfl | exact Or.inr rfl) (fe_call G__law_take hT hgd (hr.mono (by decide : 1 ≤ 1)) tk (by rfl) mg__law_take kp__law_take b__law_take (fa_cons (fe_var 0) (fa_cons (fe_var 3) fa_nil))))
      (fss_cons (fs_set (i := 8) sc__law_net.nd rfl (by first | exact Or.inl rfl | exact Or.inr rfl) (fe_op o_mod (fe_op o_add (fe_op o_add (fe_var 7) fe_int) (fe_call G__law_take hT hgd (hr.mono (by decide : 1 ≤ 1)) tk (by rfl) mg__law_take kp__law_take b__law_take (fa_cons (fe_var 0) (fa_cons (fe_op o_sub (fe_var 3) fe_int) fa_nil)))) (fe_var 3)))
      (fss_cons (fs_if (ft_w (fw_and (ft_cmp (o_eq hr.units) (fe_call G__law_take hT hgd (hr.mono (by decide : 1 ≤ 1)) tk (by rfl) mg__law_take kp__law_take b__law_take (fa_cons (fe_var 0) (fa_cons fe_int fa_nil))) fe_int (nomark _)) (fw_and1 (ft_cmp (o_ne hr.units) (fe_var 4) (fe_lst fa_nil) (nomark _))))) (fss_one (fs_asg (fe_slice (fe_ix i_ix (fe_var 4) (fe_un u_neg fe_int) (fun _ _ => rfl)) fo_none (fo_some fe_int)) (fg_tp rfl (fgs_cons (fg_nm sc__law_net.nd rfl (by first | exact Or.inl rfl | exact Or.inr rfl)) (fgs_cons (fg_nm sc__law_net.nd rfl (by first | exact Or.inl rfl | exact Or.inr rfl)) fgs_nil))))) fss_nil)
      (fss_one (fs_exp (fe_mt PySem.F.slot_list_append PySem.F.type_list_append m_append (fe_var 4) (fa_cons (fe_tup (fa_cons (fe_var 7) (fa_cons (fe_var 8) (fa_cons (fe_op o_add fe_int (fe_call G__law_take hT hgd (hr.mono (by decide : 1 ≤ 1)) tk (by rfl) mg__law_take kp__law_take b__law_take (fa_cons (fe_var 0) (fa_cons (fe_var 5) fa_nil)))) (fa_cons (fe_call G__law_take hT hgd (hr.mono (by decide : 1 ≤ 1)) tk (by rfl) mg__law_take kp__law_take b__law_take (fa_cons (fe_var 0) (fa_cons (fe_ix i_ix (fe_lst (fa_cons fe_int (fa_cons fe_int fa_nil))) (fe_call G__law_take hT hgd (hr.mono (by decide : 1 ≤ 1)) tk (by rfl) mg__law_take kp__law_take b__law_take (fa_cons (fe_var 0) (fa_cons fe_int fa_nil))) (fun _ _ => rfl)) fa_nil))) fa_nil))))) fa_nil))))))))
      (fss_one (fs_ret (fe_tup (fa_cons (fe_var 3) (fa_cons (fe_callTy c_tuple (by rfl) T.n_tuple (by decide +kernel) (fa_cons (fe_var 4) fa_nil)) fa_nil))))))))
theorem ok__law_net {f : Addr} {fd : FuncData} (T : Tx K mg) (g__law_take : Q__law_take P w K mg base TT) (F : Fun K "_law_net" "_law_net" s__law_net f fd) (hm : mg "_law_net" = some (.ref f)) : Q__law_net P w K mg base TT :=
  ⟨⟨f, fd, own__law_net T g__law_take F, hm, F.kp, F.binds fun _ _ _ _ _ _ us hl => match us, hl with | [_, _, _], _ => rfl⟩⟩
abbrev s__law_is_net : Stmt := topS 61
abbrev N__law_is_net : List Str := ["_law_what", "_law_road", "_law_ends", "_law_end"]
theorem sc__law_is_net : FnScope N__law_is_net ["_law_what"] (defScope s__law_is_net) := ⟨rfl, rfl, rfl, by decide +kernel, rfl, by decide +kernel, by decide +kernel⟩
abbrev Q__law_is_net (P : Program) (w : World) (K : PySem.W.Frag) (mg : Str → Option Value) (base : Heap) (TT : List (Addr × Str)) : Prop := Cal P w K mg base "_law_is_net" 2 ["_law_what"] (spOf K mg TT false [false] m__law_is_net)
theorem own__law_is_net {f : Addr} {fd : FuncData} (T : Tx K mg) (g__law_number : Q__law_number P w K mg base TT) (F : Fun K "_law_is_net" "_law_is_net" s__law_is_net f fd) : FnG P w K mg base (L2.CX P w) 2 f fd ["_law_what"] (spOf K mg TT false [false] m__law_is_net) := by
  obtain ⟨f__law_number, fd__law_number, G__law_number, mg__law_number, kp__law_number, b__law_number⟩ := g__law_number.ex
  refine fnD false [false] F sc__law_is_net rfl ?_
  intro cdv hcv A outer s H E C hT hW hgd hr
  have tk := takes_of (X := cxOf (L2.CX P w) P w K mg base N__law_is_net "_law_is_net" (defScope s__law_is_net) f cdv A outer s H E) (E := E) rfl rfl rfl rfl
  have hp := passes_of (X := cxOf (L2.CX P w) P w K mg base N__law_is_net "_law_is_net" (defScope s__law_is_net) f cdv A outer s H E) rfl
  exact (fss_cons (fs_if (ft_w (fw_or (ft_not (ft_val (fe_isa (c := "tuple") (by decide) (by rfl) T.n_isinstance (by rfl) T.n_tuple (by decide +kernel) (fe_var 0)))) (fw_or (ft_cmp (o_ne hr.units) (fe_callB c_len (by rfl) T.n_len (by decide +kernel) (fa_cons (fe_var 0) fa_nil)) fe_int (nomark _)) (fw_or1 (ft_not (ft_val (fe_call G__law_number hT hgd (hr.mono (by decide : 1 ≤ 1)) tk (by rfl) mg__law_number kp__law_number b__law_number (fa_cons (fe_ix i_ix (fe_var 0) fe_int (fun _ _ => rfl)) (fa_cons fe_int (fa_cons fe_int fa_nil)))))))))) (fss_one (fs_ret fe_bl)) fss_nil)
      (fss_cons (fs_if (ft_w (fw_or (ft_not (ft_val (fe_isa (c := "tuple") (by decide) (by rfl) T.n_isinstance (by rfl) T.n_tuple (by decide +kernel) (fe_ix i_ix (fe_var 0) fe_int (fun _ _ => rfl))))) (fw_or1 (ft_cmp o_gt (fe_callB c_len (by rfl) T.n_len (by decide +kernel) (fa_cons (fe_ix i_ix (fe_var 0) fe_int (fun _ _ => rfl)) fa_nil)) fe_int (nomark _))))) (fss_one (fs_ret fe_bl)) fss_nil)
      (fss_cons (fs_for hp rfl (fi_seq (fe_ix i_ix (fe_var 0) fe_int (fun _ _ => rfl))) (fg_nm sc__law_is_net.nd rfl (by first | exact Or.inl rfl | exact Or.inr rfl)) (fss_cons (fs_if (ft_w (fw_or (ft_not (ft_val (fe_isa (c := "tuple") (by decide) (by rfl) T.n_isinstance (by rfl) T.n_tuple (by decide +kernel) (fe_var 1)))) (fw_or (ft_cmp (o_ne hr.units) (fe_callB c_len (by rfl) T.n_len (by decide +kernel) (fa_cons (fe_var 1) fa_nil)) fe_int (nomark _)) (fw_or1 (ft_not (ft_val (fe_call G__law_number hT hgd (hr.mono (by decide : 1 ≤ 1)) tk (by rfl) mg__law_number kp__law_number b__law_number (fa_cons (fe_ix i_ix (fe_var 1) fe_int (fun _ _ => rfl)) (fa_cons fe_int (fa_cons fe_int fa_nil)))))))))) (fss_one (fs_ret fe_bl)) fss_nil)
      (fss_cons (fs_setLc (own := [("_law_end", 3)]) (i := 2) rfl sc__law_is_net.nd rfl rfl (sw_true rfl rfl rfl (by decide +kernel)) (fi_seq (fe_slice (fe_var 1) fo_none (fo_some fe_int))) (blkOk_by (own := [("_law_end", 3)]) (N := N__law_is_net) (sc := defScope s__law_is_net) (by decide +kernel)) (fun _ _ _ _ _ => (fg_nm sc__law_is_net.nd rfl (by first | exact Or.inl rfl | exact Or.inr rfl))) (fun _ hT1 _ _ _ _ _ => fts_nil) (fun _ hT1 _ _ _ _ _ => (fe_call G__law_number (hT1.trans hT) hgd (hr.mono (by decide : 1 ≤ 1)) takes0 (by rfl) mg__law_number kp__law_number b__law_number (fa_cons (fe_var 3) (fa_cons fe_int (fa_cons (fe_op o_sub (fe_ix i_ix (fe_var 0) fe_int (fun _ _ => rfl)) fe_int) fa_nil))))))
      (fss_one (fs_if (ft_w (fw_or (ft_cmp (o_ne hr.units) (fe_var 2) (fe_lst (fa_cons fe_bl (fa_cons fe_bl fa_nil))) (nomark _)) (fw_or (ft_cmp (o_eq hr.units) (fe_ix i_ix (fe_var 1) fe_int (fun _ _ => rfl)) (fe_ix i_ix (fe_var 1) fe_int (fun _ _ => rfl)) (nomark _)) (fw_or1 (ft_not (ft_val (fe_call G__law_number hT hgd (hr.mono (by decide : 1 ≤ 1)) tk (by rfl) mg__law_number kp__law_number b__law_number (fa_cons (fe_ix i_ix (fe_var 1) fe_int (fun _ _ => rfl)) (fa_cons fe_int (fa_cons fe_int fa_nil)))))))))) (fss_one (fs_ret fe_bl)) fss_nil)))))
      (fss_one (fs_ret fe_bl)))))
theorem ok__law_is_net {f : Addr} {fd : FuncData} (T : Tx K mg) (g__law_number : Q__law_number P w K mg base TT) (F : Fun K "_law_is_net" "_law_is_net" s__law_is_net f fd) (hm : mg "_law_is_net" = some (.ref f)) : Q__law_is_net P w K mg base TT :=
  ⟨⟨f, fd, own__law_is_net T g__law_number F, hm, F.kp, F.binds fun _ _ _ _ _ _ us hl => match us, hl with | [_], _ => rfl⟩⟩
abbrev s__law_spoilt_r0 : Stmt := topS 62
abbrev N__law_spoilt_r0 : List Str := ["_law_state_here", "_law_what", "_law_deep", "_law_at", "_law_walk", "_law_odd_here"]
theorem sc__law_spoilt_r0 : FnScope N__law_spoilt_r0 ["_law_state_here", "_law_what", "_law_deep"] (defScope s__law_spoilt_r0) := ⟨rfl, rfl, rfl, by decide +kernel, rfl, by decide +kernel, by decide +kernel⟩
abbrev Q__law_spoilt_r0 (P : Program) (w : World) (K : PySem.W.Frag) (mg : Str → Option Value) (base : Heap) (TT : List (Addr × Str)) : Prop := Cal P w K mg base "_law_spoilt" 2 ["_law_state_here", "_law_what", "_law_deep"] (spOf K mg TT false [true, false, false] m__law_spoilt_r0)
theorem own__law_spoilt_r0 {f : Addr} {fd : FuncData} (T : Tx K mg) (g__law_take : Q__law_take P w K mg base TT) (F : Fun K "_law_spoilt" "_law_spoilt" s__law_spoilt_r0 f fd) : FnG P w K mg base (L2.CX P w) 2 f fd ["_law_state_here", "_law_what", "_law_deep"] (spOf K mg TT false [true, false, false] m__law_spoilt_r0) := by
  obtain ⟨f__law_take, fd__law_take, G__law_take, mg__law_take, kp__law_take, b__law_take⟩ := g__law_take.ex
  refine fnD false [true, false, false] F sc__law_spoilt_r0 rfl ?_
  intro cdv hcv A outer s H E C hT hW hgd hr
  have tk := takes_of (X := cxOf (L2.CX P w) P w K mg base N__law_spoilt_r0 "_law_spoilt" (defScope s__law_spoilt_r0) f cdv A outer s H E) (E := E) rfl rfl rfl rfl
  have hp := passes_of (X := cxOf (L2.CX P w) P w K mg base N__law_spoilt_r0 "_law_spoilt" (defScope s__law_spoilt_r0) f cdv A outer s H E) rfl
  exact (fss_cons (fs_par (i := 3) (j := 4) rfl sc__law_spoilt_r0.nd rfl rfl (by decide) rfl rfl (fa_cons (fe_call G__law_take hT hgd (hr.mono (by decide : 1 ≤ 1)) tk (by rfl) mg__law_take kp__law_take b__law_take (fa_cons (fe_var 0) (fa_cons (fe_op o_add (fe_callB c_len (by rfl) T.n_len (by decide +kernel) (fa_cons (fe_var 1) fa_nil)) fe_int) fa_nil))) (fa_cons (fe_call G__law_take hT hgd (hr.mono (by decide : 1 ≤ 1)) tk (by rfl) mg__law_take kp__law_take b__law_take (fa_cons (fe_var 0) (fa_cons fe_int fa_nil))) fa_nil)) (by rfl))
      (fss_cons (fs_set (i := 5) sc__law_spoilt_r0.nd rfl (by first | exact Or.inl rfl | exact Or.inr rfl) (fe_ix i_ix (fe_lst (fa_cons (fe_un u_neg fe_int) (fa_cons fe_int (fa_cons fe_int (fa_cons fe_int (fa_cons fe_int (fa_cons fe_int (fa_cons fe_int (fa_cons fe_bl (fa_cons fe_bl (fa_cons fe_non (fa_cons fe_str (fa_cons (fe_tup fa_nil) (fa_cons (fe_op o_pow fe_int fe_int) (fa_cons fe_int fa_nil))))))))))))))) (fe_call G__law_take hT hgd (hr.mono (by decide : 1 ≤ 1)) tk (by rfl) mg__law_take kp__law_take b__law_take (fa_cons (fe_var 0) (fa_cons fe_int fa_nil))) (fun _ _ => rfl)))
      (fss_cons (fs_if (ft_w (fw_and (ft_cmp o_gt (fe_var 2) fe_int (nomark _)) (fw_and (ft_cmp o_lt (fe_var 3) (fe_callB c_len (by rfl) T.n_len (by decide +kernel) (fa_cons (fe_var 1) fa_nil)) (nomark _)) (fw_and (ft_val (fe_isa (c := "tuple") (by decide) (by rfl) T.n_isinstance (by rfl) T.n_tuple (by decide +kernel) (fe_ix i_ix (fe_var 1) (fe_var 3) (fun _ _ => rfl)))) (fw_and1 (ft_cmp o_gt (fe_call G__law_take hT hgd (hr.mono (by decide : 1 ≤ 1)) tk (by rfl) mg__law_take kp__law_take b__law_take (fa_cons (fe_var 0) (fa_cons fe_int fa_nil))) fe_int (nomark _))))))) (fss_one fs_never) fss_nil)
      (fss_cons (fs_if (ft_cmp (o_eq hr.units) (fe_var 4) fe_int (nomark _)) (fss_one (fs_ret (fe_ix i_ix (fe_lst (fa_cons (fe_callTy c_list (by rfl) T.n_list (by decide +kernel) (fa_cons (fe_var 1) fa_nil)) (fa_cons (fe_rev (fe_var 1)) (fa_cons (fe_op o_add (fe_var 1) (fe_slice (fe_var 1) (fo_some (fe_un u_neg fe_int)) fo_none)) (fa_cons (fe_slice (fe_var 1) fo_none (fo_some (fe_un u_neg fe_int))) fa_nil))))) (fe_call G__law_take hT hgd (hr.mono (by decide : 1 ≤ 1)) tk (by rfl) mg__law_take kp__law_take b__law_take (fa_cons (fe_var 0) (fa_cons fe_int fa_nil))) (fun _ _ => rfl)))) fss_nil)
      (fss_cons (fs_if (ft_cmp (o_eq hr.units) (fe_var 4) fe_int (nomark _)) (fss_one (fs_ret (fe_op o_add (fe_op o_add (fe_slice (fe_var 1) fo_none (fo_some (fe_var 3))) (fe_tup (fa_cons (fe_var 5) fa_nil))) (fe_slice (fe_var 1) (fo_some (fe_var 3)) fo_none)))) fss_nil)
      (fss_cons (fs_if (ft_w (fw_and (ft_cmp o_lt (fe_var 4) fe_int (nomark _)) (fw_and (ft_cmp o_lt (fe_var 3) (fe_callB c_len (by rfl) T.n_len (by decide +kernel) (fa_cons (fe_var 1) fa_nil)) (nomark _)) (fw_and1 (ft_val (fe_isa (c := "int") (by decide) (by rfl) T.n_isinstance (by rfl) T.n_int (by decide +kernel) (fe_ix i_ix (fe_var 1) (fe_var 3) (fun _ _ => rfl)))))))) (fss_one (fs_ret (fe_op o_add (fe_op o_add (fe_slice (fe_var 1) fo_none (fo_some (fe_var 3))) (fe_tup (fa_cons (fe_op o_add (fe_ix i_ix (fe_var 1) (fe_var 3) (fun _ _ => rfl)) (fe_ix i_ix (fe_lst (fa_cons fe_int (fa_cons (fe_un u_neg fe_int) fa_nil))) (fe_call G__law_take hT hgd (hr.mono (by decide : 1 ≤ 1)) tk (by rfl) mg__law_take kp__law_take b__law_take (fa_cons (fe_var 0) (fa_cons fe_int fa_nil))) (fun _ _ => rfl))) fa_nil))) (fe_slice (fe_var 1) (fo_some (fe_op o_add (fe_var 3) fe_int)) fo_none)))) fss_nil)
      (fss_one (fs_ret (fe_op o_add (fe_op o_add (fe_slice (fe_var 1) fo_none (fo_some (fe_var 3))) (fe_tup (fa_cons (fe_var 5) fa_nil))) (fe_slice (fe_var 1) (fo_some (fe_op o_add (fe_var 3) fe_int)) fo_none))))))))))
theorem ok__law_spoilt_r0 {f : Addr} {fd : FuncData} (T : Tx K mg) (g__law_take : Q__law_take P w K mg base TT) (F : Fun K "_law_spoilt" "_law_spoilt" s__law_spoilt_r0 f fd) (hm : mg "_law_spoilt" = some (.ref f)) : Q__law_spoilt_r0 P w K mg base TT :=
  ⟨⟨f, fd, own__law_spoilt_r0 T g__law_take F, hm, F.kp, F.binds fun _ _ _ _ _ _ us hl => match us, hl with | [_, _, _], _ => rfl⟩⟩
abbrev s__law_spoilt_r1 : Stmt := topS 62
abbrev N__law_spoilt_r1 : List Str := ["_law_state_here", "_law_what", "_law_deep", "_law_at", "_law_walk", "_law_odd_here"]
theorem sc__law_spoilt_r1 : FnScope N__law_spoilt_r1 ["_law_state_here", "_law_what", "_law_deep"] (defScope s__law_spoilt_r1) := ⟨rfl, rfl, rfl, by decide +kernel, rfl, by decide +kernel, by decide +kernel⟩
abbrev Q__law_spoilt_r1 (P : Program) (w : World) (K : PySem.W.Frag) (mg : Str → Option Value) (base : Heap) (TT : List (Addr × Str)) : Prop := Cal P w K mg base "_law_spoilt" 3 ["_law_state_here", "_law_what", "_law_deep"] (spOf K mg TT false [true, false, false] m__law_spoilt_r1)
theorem own__law_spoilt_r1 {f : Addr} {fd : FuncData} (T : Tx K mg) (g__law_take : Q__law_take P w K mg base TT) (g__law_spoilt_r0 : Q__law_spoilt_r0 P w K mg base TT) (F : Fun K "_law_spoilt" "_law_spoilt" s__law_spoilt_r1 f fd) : FnG P w K mg base (L2.CX P w) 3 f fd ["_law_state_here", "_law_what", "_law_deep"] (spOf K mg TT false [true, false, false] m__law_spoilt_r1) := by
  obtain ⟨f__law_take, fd__law_take, G__law_take, mg__law_take, kp__law_take, b__law_take⟩ := g__law_take.ex
  obtain ⟨f__law_spoilt_r0, fd__law_spoilt_r0, G__law_spoilt_r0, mg__law_spoilt_r0, kp__law_spoilt_r0, b__law_spoilt_r0⟩ := g__law_spoilt_r0.ex
  refine fnD false [true, false, false] F sc__law_spoilt_r1 rfl ?_
  intro cdv hcv A outer s H E C hT hW hgd hr
  have tk := takes_of (X := cxOf (L2.CX P w) P w K mg base N__law_spoilt_r1 "_law_spoilt" (defScope s__law_spoilt_r1) f cdv A outer s H E) (E := E) rfl rfl rfl rfl
  have hp := passes_of (X := cxOf (L2.CX P w) P w K mg base N__law_spoilt_r1 "_law_spoilt" (defScope s__law_spoilt_r1) f cdv A outer s H E) rfl
  exact (fss_cons (fs_par (i := 3) (j := 4) rfl sc__law_spoilt_r1.nd rfl rfl (by decide) rfl rfl (fa_cons (fe_call G__law_take hT hgd (hr.mono (by decide : 1 ≤ 2)) tk (by rfl) mg__law_take kp__law_take b__law_take (fa_cons (fe_var 0) (fa_cons (fe_op o_add (fe_callB c_len (by rfl) T.n_len (by decide +kernel) (fa_cons (fe_var 1) fa_nil)) fe_int) fa_nil))) (fa_cons (fe_call G__law_take hT hgd (hr.mono (by decide : 1 ≤ 2)) tk (by rfl) mg__law_take kp__law_take b__law_take (fa_cons (fe_var 0) (fa_cons fe_int fa_nil))) fa_nil)) (by rfl))
      (fss_cons (fs_set (i := 5) sc__law_spoilt_r1.nd rfl (by first | exact Or.inl rfl | exact Or.inr rfl) (fe_ix i_ix (fe_lst (fa_cons (fe_un u_neg fe_int) (fa_cons fe_int (fa_cons fe_int (fa_cons fe_int (fa_cons fe_int (fa_cons fe_int (fa_cons fe_int (fa_cons fe_bl (fa_cons fe_bl (fa_cons fe_non (fa_cons fe_str (fa_cons (fe_tup fa_nil) (fa_cons (fe_op o_pow fe_int fe_int) (fa_cons fe_int fa_nil))))))))))))))) (fe_call G__law_take hT hgd (hr.mono (by decide : 1 ≤ 2)) tk (by rfl) mg__law_take kp__law_take b__law_take (fa_cons (fe_var 0) (fa_cons fe_int fa_nil))) (fun _ _ => rfl)))
      (fss_cons (fs_if (ft_w (fw_and (ft_cmp o_gt (fe_var 2) fe_int (nomark _)) (fw_and (ft_cmp o_lt (fe_var 3) (fe_callB c_len (by rfl) T.n_len (by decide +kernel) (fa_cons (fe_var 1) fa_nil)) (nomark _)) (fw_and (ft_val (fe_isa (c := "tuple") (by decide) (by rfl) T.n_isinstance (by rfl) T.n_tuple (by decide +kernel) (fe_ix i_ix (fe_var 1) (fe_var 3) (fun _ _ => rfl)))) (fw_and1 (ft_cmp o_gt (fe_call G__law_take hT hgd (hr.mono (by decide : 1 ≤ 2)) tk (by rfl) mg__law_take kp__law_take b__law_take (fa_cons (fe_var 0) (fa_cons fe_int fa_nil))) fe_int (nomark _))))))) (fss_one (fs_ret (fe_op o_add (fe_op o_add (fe_slice (fe_var 1) fo_none (fo_some (fe_var 3))) (fe_tup (fa_cons (fe_call G__law_spoilt_r0 hT hgd (hr.mono (by decide : 2 ≤ 2)) tk (by rfl) mg__law_spoilt_r0 kp__law_spoilt_r0 b__law_spoilt_r0 (fa_cons (fe_var 0) (fa_cons (fe_ix i_ix (fe_var 1) (fe_var 3) (fun _ _ => rfl)) (fa_cons (fe_op o_sub (fe_var 2) fe_int) fa_nil)))) fa_nil))) (fe_slice (fe_var 1) (fo_some (fe_op o_add (fe_var 3) fe_int)) fo_none)))) fss_nil)
      (fss_cons (fs_if (ft_cmp (o_eq hr.units) (fe_var 4) fe_int (nomark _)) (fss_one (fs_ret (fe_ix i_ix (fe_lst (fa_cons (fe_callTy c_list (by rfl) T.n_list (by decide +kernel) (fa_cons (fe_var 1) fa_nil)) (fa_cons (fe_rev (fe_var 1)) (fa_cons (fe_op o_add (fe_var 1) (fe_slice (fe_var 1) (fo_some (fe_un u_neg fe_int)) fo_none)) (fa_cons (fe_slice (fe_var 1) fo_none (fo_some (fe_un u_neg fe_int))) fa_nil))))) (fe_call G__law_take hT hgd (hr.mono (by decide : 1 ≤ 2)) tk (by rfl) mg__law_take kp__law_take b__law_take (fa_cons (fe_var 0) (fa_cons fe_int fa_nil))) (fun _ _ => rfl)))) fss_nil)
      (fss_cons (fs_if (ft_cmp (o_eq hr.units) (fe_var 4) fe_int (nomark _)) (fss_one (fs_ret (fe_op o_add (fe_op o_add (fe_slice (fe_var 1) fo_none (fo_some (fe_var 3))) (fe_tup (fa_cons (fe_var 5) fa_nil))) (fe_slice (fe_var 1) (fo_some (fe_var 3)) fo_none)))) fss_nil)
      (fss_cons (fs_if (ft_w (fw_and (ft_cmp o_lt (fe_var 4) fe_int (nomark _)) (fw_and (ft_cmp o_lt (fe_var 3) (fe_callB c_len (by rfl) T.n_len (by decide +kernel) (fa_cons (fe_var 1) fa_nil)) (nomark _)) (fw_and1 (ft_val (fe_isa (c := "int") (by decide) (by rfl) T.n_isinstance (by rfl) T.n_int (by decide +kernel) (fe_ix i_ix (fe_var 1) (fe_var 3) (fun _ _ => rfl)))))))) (fss_one (fs_ret (fe_op o_add (fe_op o_add (fe_slice (fe_var 1) fo_none (fo_some (fe_var 3))) (fe_tup (fa_cons (fe_op o_add (fe_ix i_ix (fe_var 1) (fe_var 3) (fun _ _ => rfl)) (fe_ix i_ix (fe_lst (fa_cons fe_int (fa_cons (fe_un u_neg fe_int) fa_nil))) (fe_call G__law_take hT hgd (hr.mono (by decide : 1 ≤ 2)) tk (by rfl) mg__law_take kp__law_take b__law_take (fa_cons (fe_var 0) (fa_cons fe_int fa_nil))) (fun _ _ => rfl))) fa_nil))) (fe_slice (fe_var 1) (fo_some (fe_op o_add (fe_var 3) fe_int)) fo_none)))) fss_nil)
      (fss_one (fs_ret (fe_op o_add (fe_op o_add (fe_slice (fe_var 1) fo_none (fo_some (fe_var 3))) (fe_tup (fa_cons (fe_var 5) fa_nil))) (fe_slice (fe_var 1) (fo_some (fe_op o_add (fe_var 3) fe_int)) fo_none))))))))))
theorem ok__law_spoilt_r1 {f : Addr} {fd : FuncData} (T : Tx K mg) (g__law_take : Q__law_take P w K mg base TT) (g__law_spoilt_r0 : Q__law_spoilt_r0 P w K mg base TT) (F : Fun K "_law_spoilt" "_law_spoilt" s__law_spoilt_r1 f fd) (hm : mg "_law_spoilt" = some (.ref f)) : Q__law_spoilt_r1 P w K mg base TT :=
  ⟨⟨f, fd, own__law_spoilt_r1 T g__law_take g__law_spoilt_r0 F, hm, F.kp, F.binds fun _ _ _ _ _ _ us hl => match us, hl with | [_, _, _], _ => rfl⟩⟩
abbrev s__law_spoilt : Stmt := topS 62
abbrev N__law_spoilt : List Str := ["_law_state_here", "_law_what", "_law_deep", "_law_at", "_law_walk", "_law_odd_here"]
theorem sc__law_spoilt : FnScope N__law_spoilt ["_law_state_here", "_law_what", "_law_deep"] (defScope s__law_spoilt) := ⟨rfl, rfl, rfl, by decide +kernel, rfl, by decide +kernel, by decide +kernel⟩
abbrev Q__law_spoilt (P : Program) (w : World) (K : PySem.W.Frag) (mg : Str → Option Value) (base : Heap) (TT : List (Addr × Str)) : Prop := Cal P w K mg base "_law_spoilt" 4 ["_law_state_here", "_law_what", "_law_deep"] (spOf K mg TT false [true, false, false] m__law_spoilt)
theorem own__law_spoilt {f : Addr} {fd : FuncData} (T : Tx K mg) (g__law_take : Q__law_take P w K mg base TT) (g__law_spoilt_r1 : Q__law_spoilt_r1 P w K mg base TT) (F : Fun K "_law_spoilt" "_law_spoilt" s__law_spoilt f fd) : FnG P w K mg base (L2.CX P w) 4 f fd ["_law_state_here", "_law_what", "_law_deep"] (spOf K mg TT false [true, false, false] m__law_spoilt) := by
  obtain ⟨f__law_take, fd__law_take, G__law_take, mg__law_take, kp__law_take, b__law_take⟩ := g__law_take.ex
  obtain ⟨f__law_spoilt_r1, fd__law_spoilt_r1, G__law_spoilt_r1, mg__law_spoilt_r1, kp__law_spoilt_r1, b__law_spoilt_r1⟩ := g__law_spoilt_r1.ex
  refine fnD false [true, false, false] F sc__law_spoilt rfl ?_
  intro cdv hcv A outer s H E C hT hW hgd hr
  have tk := takes_of (X := cxOf (L2.CX P w) P w K mg base N__law_spoilt "_law_spoilt" (defScope s__law_spoilt) f cdv A outer s H E) (E := E) rfl rfl rfl rfl
  have hp := passes_of (X := cxOf (L2.CX P w) P w K mg base N__law_spoilt "_law_spoilt" (defScope s__law_spoilt) f cdv A outer s H E) rfl
  exact (fss_cons (fs_par (i := 3) (j := 4) rfl sc__law_spoilt.nd rfl rfl (by decide) rfl rfl (fa_cons (fe_call G__law_take hT hgd (hr.mono (by decide : 1 ≤ 3)) tk (by rfl) mg__law_take kp__law_take b__law_take (fa_cons (fe_var 0) (fa_cons (fe_op o_add (fe_callB c_len (by rfl) T.n_len (by decide +kernel) (fa_cons (fe_var 1) fa_nil)) fe_int) fa_nil))) (fa_cons (fe_call G__law_take hT hgd (hr.mono (by decide : 1 ≤ 3)) tk (by rfl) mg__law_take kp__law_take b__law_take (fa_cons (fe_var 0) (fa_cons fe_int fa_nil))) fa_nil)) (by rfl))
      (fss_cons (fs_set (i := 5) sc__law_spoilt.nd rfl (by first | exact Or.inl rfl | exact Or.inr rfl) (fe_ix i_ix (fe_lst (fa_cons (fe_un u_neg fe_int) (fa_cons fe_int (fa_cons fe_int (fa_cons fe_int (fa_cons fe_int (fa_cons fe_int (fa_cons fe_int (fa_cons fe_bl (fa_cons fe_bl (fa_cons fe_non (fa_cons fe_str (fa_cons (fe_tup fa_nil) (fa_cons (fe_op o_pow fe_int fe_int) (fa_cons fe_int fa_nil))))))))))))))) (fe_call G__law_take hT hgd (hr.mono (by decide : 1 ≤ 3)) tk (by rfl) mg__law_take kp__law_take b__law_take (fa_cons (fe_var 0) (fa_cons fe_int fa_nil))) (fun _ _ => rfl)))
      (fss_cons (fs_if (ft_w (fw_and (ft_cmp o_gt (fe_var 2) fe_int (nomark _)) (fw_and (ft_cmp o_lt (fe_var 3) (fe_callB c_len (by rfl) T.n_len (by decide +kernel) (fa_cons (fe_var 1) fa_nil)) (nomark _)) (fw_and (ft_val (fe_isa (c := "tuple") (by decide) (by rfl) T.n_isinstance (by rfl) T.n_tuple (by decide +kernel) (fe_ix i_ix (fe_var 1) (fe_var 3) (fun _ _ => rfl)))) (fw_and1 (ft_cmp o_gt (fe_call G__law_take hT hgd (hr.mono (by decide : 1 ≤ 3)) tk (by rfl) mg__law_take kp__law_take b__law_take (fa_cons (fe_var 0) (fa_cons fe_int fa_nil))) fe_int (nomark _))))))) (fss_one (fs_ret (fe_op o_add (fe_op o_add (fe_slice (fe_var 1) fo_none (fo_some (fe_var 3))) (fe_tup (fa_cons (fe_call G__law_spoilt_r1 hT hgd (hr.mono (by decide : 3 ≤ 3)) tk (by rfl) mg__law_spoilt_r1 kp__law_spoilt_r1 b__law_spoilt_r1 (fa_cons (fe_var 0) (fa_cons (fe_ix i_ix (fe_var 1) (fe_var 3) (fun _ _ => rfl)) (fa_cons (fe_op o_sub (fe_var 2) fe_int) fa_nil)))) fa_nil))) (fe_slice (fe_var 1) (fo_some (fe_op o_add (fe_var 3) fe_int)) fo_none)))) fss_nil)
      (fss_cons (fs_if (ft_cmp (o_eq hr.units) (fe_var 4) fe_int (nomark _)) (fss_one (fs_ret (fe_ix i_ix (fe_lst (fa_cons (fe_callTy c_list (by rfl) T.n_list (by decide +kernel) (fa_cons (fe_var 1) fa_nil)) (fa_cons (fe_rev (fe_var 1)) (fa_cons (fe_op o_add (fe_var 1) (fe_slice (fe_var 1) (fo_some (fe_un u_neg fe_int)) fo_none)) (fa_cons (fe_slice (fe_var 1) fo_none (fo_some (fe_un u_neg fe_int))) fa_nil))))) (fe_call G__law_take hT hgd (hr.mono (by decide : 1 ≤ 3)) tk (by rfl) mg__law_take kp__law_take b__law_take (fa_cons (fe_var 0) (fa_cons fe_int fa_nil))) (fun _ _ => rfl)))) fss_nil)
      (fss_cons (fs_if (ft_cmp (o_eq hr.units) (fe_var 4) fe_int (nomark _)) (fss_one (fs_ret (fe_op o_add (fe_op o_add (fe_slice (fe_var 1) fo_none (fo_some (fe_var 3))) (fe_tup (fa_cons (fe_var 5) fa_nil))) (fe_slice (fe_var 1) (fo_some (fe_var 3)) fo_none)))) fss_nil)
      (fss_cons (fs_if (ft_w (fw_and (ft_cmp o_lt (fe_var 4) fe_int (nomark _)) (fw_and (ft_cmp o_lt (fe_var 3) (fe_callB c_len (by rfl) T.n_len (by decide +kernel) (fa_cons (fe_var 1) fa_nil)) (nomark _)) (fw_and1 (ft_val (fe_isa (c := "int") (by decide) (by rfl) T.n_isinstance (by rfl) T.n_int (by decide +kernel) (fe_ix i_ix (fe_var 1) (fe_var 3) (fun _ _ => rfl)))))))) (fss_one (fs_ret (fe_op o_add (fe_op o_add (fe_slice (fe_var 1) fo_none (fo_some (fe_var 3))) (fe_tup (fa_cons (fe_op o_add (fe_ix i_ix (fe_var 1) (fe_var 3) (fun _ _ => rfl)) (fe_ix i_ix (fe_lst (fa_cons fe_int (fa_cons (fe_un u_neg fe_int) fa_nil))) (fe_call G__law_take hT hgd (hr.mono (by decide : 1 ≤ 3)) tk (by rfl) mg__law_take kp__law_take b__law_take (fa_cons (fe_var 0) (fa_cons fe_int fa_nil))) (fun _ _ => rfl))) fa_nil))) (fe_slice (fe_var 1) (fo_some (fe_op o_add (fe_var 3) fe_int)) fo_none)))) fss_nil)
      (fss_one (fs_ret (fe_op o_add (fe_op o_add (fe_slice (fe_var 1) fo_none (fo_some (fe_var 3))) (fe_tup (fa_cons (fe_var 5) fa_nil))) (fe_slice (fe_var 1) (fo_some (fe_op o_add (fe_var 3) fe_int)) fo_none))))))))))
theorem ok__law_spoilt {f : Addr} {fd : FuncData} (T : Tx K mg) (g__law_take : Q__law_take P w K mg base TT) (g__law_spoilt_r1 : Q__law_spoilt_r1 P w K mg base TT) (F : Fun K "_law_spoilt" "_law_spoilt" s__law_spoilt f fd) (hm : mg "_law_spoilt" = some (.ref f)) : Q__law_spoilt P w K mg base TT :=
  ⟨⟨f, fd, own__law_spoilt T g__law_take g__law_spoilt_r1 F, hm, F.kp, F.binds fun _ _ _ _ _ _ us hl => match us, hl with | [_, _, _], _ => rfl⟩⟩
abbrev s__law_odd : Stmt := topS 63
abbrev N__law_odd : List Str := ["_law_state_here", "_law_some"]
theorem sc__law_odd : FnScope N__law_odd ["_law_state_here"] (defScope s__law_odd) := ⟨rfl, rfl, rfl, by decide +kernel, rfl, by decide +kernel, by decide +kernel⟩
abbrev Q__law_odd (P : Program) (w : World) (K : PySem.W.Frag) (mg : Str → Option Value) (base : Heap) (TT : List (Addr × Str)) : Prop := Cal P w K mg base "_law_odd" 2 ["_law_state_here"] (spOf K mg TT false [true] m__law_odd)
theorem own__law_odd {f : Addr} {fd : FuncData} (T : Tx K mg) (g__law_take : Q__law_take P w K mg base TT) (F : Fun K "_law_odd" "_law_odd" s__law_odd f fd) : FnG P w K mg base (L2.CX P w) 2 f fd ["_law_state_here"] (spOf K mg TT false [true] m__law_odd) := by
  obtain ⟨f__law_take, fd__law_take, G__law_take, mg__law_take, kp__law_take, b__law_take⟩ := g__law_take.ex
  refine fnD false [true] F sc__law_odd rfl ?_
  intro cdv hcv A outer s H E C hT hW hgd hr
  have tk := takes_of (X := cxOf (L2.CX P w) P w K mg base N__law_odd "_law_odd" (defScope s__law_odd) f cdv A outer s H E) (E := E) rfl rfl rfl rfl
  have hp := passes_of (X := cxOf (L2.CX P w) P w K mg base N__law_odd "_law_odd" (defScope s__law_odd) f cdv A outer s H E) rfl
  exact (fss_cons (fs_set (i := 1) sc__law_odd.nd rfl (by first | exact Or.inl rfl | exact Or.inr rfl) (fe_lst (fa_cons fe_non (fa_cons fe_bl (fa_cons fe_bl (fa_cons fe_int (fa_cons fe_int (fa_cons (fe_un u_neg fe_int) (fa_cons fe_int (fa_cons fe_int (fa_cons (fe_op o_pow fe_int fe_int) (fa_cons fe_str (fa_cons fe_str (fa_cons fe_str (fa_cons (fe_tup fa_nil) (fa_cons (fe_lst fa_nil) (fa_cons fe_dnil (fa_cons (fe_tup (fa_cons fe_int fa_nil)) (fa_cons (fe_lst (fa_cons fe_int fa_nil)) (fa_cons (fe_tup (fa_cons fe_int (fa_cons fe_int fa_nil))) (fa_cons (fe_tup (fa_cons fe_bl fa_nil)) fa_nil)))))))))))))))))))))
      (fss_one (fs_ret (fe_ix i_ix (fe_op o_add (fe_var 1) (fe_lst (fa_cons (fe_tup (fa_cons (fe_tup fa_nil) fa_nil)) (fa_cons fe_d1 (fa_cons (fe_tup (fa_cons fe_int (fa_cons (fe_tup fa_nil) fa_nil))) (fa_cons (fe_lst (fa_cons fe_int (fa_cons (fe_tup fa_nil) fa_nil))) (fa_cons (fe_tup (fa_cons fe_non (fa_cons fe_int fa_nil))) (fa_cons (fe_tup (fa_cons fe_str fa_nil)) (fa_cons (fe_tup (fa_cons (fe_tup (fa_cons fe_int (fa_cons fe_int fa_nil))) fa_nil)) fa_nil))))))))) (fe_call G__law_take hT hgd (hr.mono (by decide : 1 ≤ 1)) tk (by rfl) mg__law_take kp__law_take b__law_take (fa_cons (fe_var 0) (fa_cons fe_int fa_nil))) (fun _ _ => rfl)))))
theorem ok__law_odd {f : Addr} {fd : FuncData} (T : Tx K mg) (g__law_take : Q__law_take P w K mg base TT) (F : Fun K "_law_odd" "_law_odd" s__law_odd f fd) (hm : mg "_law_odd" = some (.ref f)) : Q__law_odd P w K mg base TT :=
  ⟨⟨f, fd, own__law_odd T g__law_take F, hm, F.kp, F.binds fun _ _ _ _ _ _ us hl => match us, hl with | [_], _ => rfl⟩⟩
abbrev s__law_refused : Stmt := topS 64
abbrev N__law_refused : List Str := ["_law_what", "_law_calls", "_law_call"]
theorem sc__law_refused : FnScope N__law_refused ["_law_what"] (defScope s__law_refused) := ⟨rfl, rfl, rfl, by decide +kernel, rfl, by decide +kernel, by decide +kernel⟩
abbrev Q__law_refused (P : Program) (w : World) (K : PySem.W.Frag) (mg : Str → Option Value) (base : Heap) (TT : List (Addr × Str)) : Prop := Cal P w K mg base "_law_refused" 8 ["_law_what"] (spOf K mg TT false [false] m__law_refused)
theorem own__law_refused {f : Addr} {fd : FuncData} (T : Tx K mg) (g_way_of : Q_way_of P w K mg base TT) (g_is_simple : Q_is_simple P w K mg base TT) (g_prices_of : Q_prices_of P w K mg base TT) (g_are_prices : Q_are_prices P w K mg base TT) (gS : SaidAll P w K mg base TT 2 s__law_said ys_ R_ m__law_word false) (Lm : LamOk base mg TT fd (lamQ "_law_refused")) (F : Fun K "_law_refused" "_law_refused" s__law_refused f fd) : FnG P w K mg base (L2.CX P w) 8 f fd ["_law_what"] (spOf K mg TT false [false] m__law_refused) := by
  obtain ⟨f_way_of, fd_way_of, G_way_of, mg_way_of, kp_way_of, b_way_of⟩ := g_way_of.ex
  obtain ⟨f_is_simple, fd_is_simple, G_is_simple, mg_is_simple, kp_is_simple, b_is_simple⟩ := g_is_simple.ex
  obtain ⟨f_prices_of, fd_prices_of, G_prices_of, mg_prices_of, kp_prices_of, sh_prices_of_⟩ := g_prices_of.ex
  obtain ⟨f_are_prices, fd_are_prices, G_are_prices, mg_are_prices, kp_are_prices, sh_are_prices_⟩ := g_are_prices.ex
  refine fnD false [false] F sc__law_refused rfl ?_
  intro cdv hcv A outer s H E C hT hW hgd hr
  have tk := takes_of (X := cxOf (L2.CX P w) P w K mg base N__law_refused "_law_refused" (defScope s__law_refused) f cdv A outer s H E) (E := E) rfl rfl rfl rfl
  have hp := passes_of (X := cxOf (L2.CX P w) P w K mg base N__law_refused "_law_refused" (defScope s__law_refused) f cdv A outer s H E) rfl
  exact (fss_lams (k := 5) (iL := 1) (ix := 2) gS Lm hcv.symm hT hgd (hr.mono (by decide : 7 ≤ 7)) (by decide) rfl sc__law_refused.nd rfl rfl (by first | exact Or.inl rfl | exact Or.inr rfl) (by first | exact Or.inl rfl | exact Or.inr rfl) (by first | exact Or.inl rfl | exact Or.inr (Or.inl rfl) | exact Or.inr (Or.inr rfl)) (blkOk_by (own := [("_law_call", 2)]) (N := N__law_refused) (sc := defScope s__law_refused) (by decide +kernel)) (fun _ _ _ _ _ => (fg_nm sc__law_refused.nd rfl (by first | exact Or.inl rfl | exact Or.inr rfl))) (fun _ _ => (by first | exact Or.inl rfl | exact Or.inr (Or.inl rfl) | exact Or.inr (Or.inr rfl))) (fun _ _ _ _ _ => by rfl) hr.units
      ⟨LamX.lamS_by (show LamX.lamSB (defScope s__law_refused) _ = true by decide +kernel), by rfl, by intros; rfl, fun _ _ _ hTl _ _ _ _ _ hgdl hrl => (fe_call G_way_of hTl hgdl (hrl.mono (by decide : 5 ≤ 5)) (takes_of rfl rfl rfl rfl) (by rfl) mg_way_of kp_way_of b_way_of (fa_cons (fe_var 0) (fa_cons fe_non (fa_cons fe_non fa_nil))))⟩
      ⟨LamX.lamS_by (show LamX.lamSB (defScope s__law_refused) _ = true by decide +kernel), by rfl, by intros; rfl, fun _ _ _ hTl _ _ _ _ _ hgdl hrl => (fe_call G_is_simple hTl hgdl (hrl.mono (by decide : 5 ≤ 5)) (takes_of rfl rfl rfl rfl) (by rfl) mg_is_simple kp_is_simple b_is_simple (fa_cons (fe_var 0) (fa_cons fe_int (fa_cons (fe_tup fa_nil) fa_nil))))⟩
      ⟨LamX.lamS_by (show LamX.lamSB (defScope s__law_refused) _ = true by decide +kernel), by rfl, by intros; rfl, fun _ _ _ hTl _ _ _ _ _ hgdl hrl => (fe_callA (sh := (2, [], [.ix 0, .ix 1, .df 0 (.tuple [])])) G_prices_of hTl hgdl (hrl.mono (by decide : 5 ≤ 5)) (takes_of rfl rfl rfl rfl) (by rfl) mg_prices_of kp_prices_of (sh_prices_of_ (2, [], [.ix 0, .ix 1, .df 0 (.tuple [])]) (by simp [sh_prices_of])) rfl (fa_cons (fe_var 0) (fa_cons fe_non fa_nil)))⟩
      ⟨LamX.lamS_by (show LamX.lamSB (defScope s__law_refused) _ = true by decide +kernel), by rfl, by intros; rfl, fun _ _ _ hTl _ _ _ _ _ hgdl hrl => (fe_callA (sh := (3, [], [.ix 0, .ix 1, .ix 2, .df 0 (.tuple [])])) G_are_prices hTl hgdl (hrl.mono (by decide : 5 ≤ 5)) (takes_of rfl rfl rfl rfl) (by rfl) mg_are_prices kp_are_prices (sh_are_prices_ (3, [], [.ix 0, .ix 1, .ix 2, .df 0 (.tuple [])]) (by simp [sh_are_prices])) rfl (fa_cons (fe_var 0) (fa_cons fe_int (fa_cons (fe_tup fa_nil) fa_nil))))⟩
      (fe_rep (fa_cons (fe_tup (fa_cons fe_str fa_nil)) fa_nil) fe_int))
theorem ok__law_refused {f : Addr} {fd : FuncData} (T : Tx K mg) (g_way_of : Q_way_of P w K mg base TT) (g_is_simple : Q_is_simple P w K mg base TT) (g_prices_of : Q_prices_of P w K mg base TT) (g_are_prices : Q_are_prices P w K mg base TT) (gS : SaidAll P w K mg base TT 2 s__law_said ys_ R_ m__law_word false) (Lm : LamOk base mg TT fd (lamQ "_law_refused")) (F : Fun K "_law_refused" "_law_refused" s__law_refused f fd) (hm : mg "_law_refused" = some (.ref f)) : Q__law_refused P w K mg base TT :=
  ⟨⟨f, fd, own__law_refused T g_way_of g_is_simple g_prices_of g_are_prices gS Lm F, hm, F.kp, F.binds fun _ _ _ _ _ _ us hl => match us, hl with | [_], _ => rfl⟩⟩
abbrev s_law : Stmt := topS 65
abbrev N_law : List Str := ["_law_script", "_law_road", "_law_ends", "_law_what", "_law_k", "_law_state_here", "_law_web", "_law_some", "_law_turn", "_law_kept", "_law_due"]
theorem sc_law : FnScope N_law ["_law_script"] (defScope s_law) := ⟨rfl, rfl, rfl, by decide +kernel, rfl, by decide +kernel, by decide +kernel⟩
theorem own_law {f : Addr} {fd : FuncData} (T : Tx K mg) (g_is_net : Q_is_net P w K mg base TT) (g__law_state : Q__law_state P w K mg base TT) (g__law_net : Q__law_net P w K mg base TT) (g__law_is_net : Q__law_is_net P w K mg base TT) (g__law_spoilt : Q__law_spoilt P w K mg base TT) (g__law_odd : Q__law_odd P w K mg base TT) (g__law_refused : Q__law_refused P w K mg base TT) (F : Fun K "law" "law" s_law f fd) : FnG P w K mg base (L2.CX P w) 9 f fd ["_law_script"] (spOf K mg TT false [false] m_law) := by
  obtain ⟨f_is_net, fd_is_net, G_is_net, mg_is_net, kp_is_net, b_is_net⟩ := g_is_net.ex
  obtain ⟨f__law_state, fd__law_state, G__law_state, mg__law_state, kp__law_state, b__law_state⟩ := g__law_state.ex
  obtain ⟨f__law_net, fd__law_net, G__law_net, mg__law_net, kp__law_net, b__law_net⟩ := g__law_net.ex
  obtain ⟨f__law_is_net, fd__law_is_net, G__law_is_net, mg__law_is_net, kp__law_is_net, b__law_is_net⟩ := g__law_is_net.ex
  obtain ⟨f__law_spoilt, fd__law_spoilt, G__law_spoilt, mg__law_spoilt, kp__law_spoilt, b__law_spoilt⟩ := g__law_spoilt.ex
  obtain ⟨f__law_odd, fd__law_odd, G__law_odd, mg__law_odd, kp__law_odd, b__law_odd⟩ := g__law_odd.ex
  obtain ⟨f__law_refused, fd__law_refused, G__law_refused, mg__law_refused, kp__law_refused, b__law_refused⟩ := g__law_refused.ex
  refine fnD false [false] F sc_law rfl ?_
  intro cdv hcv A outer s H E C hT hW hgd hr
  have tk := takes_of (X := cxOf (L2.CX P w) P w K mg base N_law "law" (defScope s_law) f cdv A outer s H E) (E := E) rfl rfl rfl rfl
  have hp := passes_of (X := cxOf (L2.CX P w) P w K mg base N_law "law" (defScope s_law) f cdv A outer s H E) rfl
  exact (fss_cons (fs_set (i := 1) sc_law.nd rfl (by first | exact Or.inl rfl | exact Or.inr rfl) (fe_tup (fa_cons fe_int (fa_cons fe_int (fa_cons fe_int (fa_cons fe_int fa_nil))))))
      (fss_cons (fs_set (i := 2) sc_law.nd rfl (by first | exact Or.inl rfl | exact Or.inr rfl) (fe_new (fa_cons (fe_tup (fa_cons fe_int (fa_cons (fe_tup fa_nil) fa_nil))) (fa_cons (fe_tup (fa_cons fe_int (fa_cons (fe_tup fa_nil) fa_nil))) (fa_cons (fe_tup (fa_cons fe_int (fa_cons (fe_tup fa_nil) fa_nil))) (fa_cons (fe_tup (fa_cons fe_int (fa_cons (fe_tup fa_nil) fa_nil))) (fa_cons (fe_tup (fa_cons fe_int (fa_cons (fe_op o_mulT (fe_tup (fa_cons (fe_var 1) fa_nil)) fe_int) fa_nil))) (fa_cons (fe_tup (fa_cons fe_int (fa_cons (fe_op o_mulT (fe_tup (fa_cons (fe_var 1) fa_nil)) fe_int) fa_nil))) (fa_cons (fe_tup (fa_cons fe_int (fa_cons (fe_tup (fa_cons (fe_tup (fa_cons fe_int (fa_cons fe_int (fa_cons fe_int (fa_cons fe_int fa_nil))))) fa_nil)) fa_nil))) fa_nil)))))))))
      (fss_cons (fs_exp (fe_mt PySem.F.slot_list_append PySem.F.type_list_append m_append (fe_var 2) (fa_cons (fe_tup (fa_cons fe_int (fa_cons (fe_tup (fa_cons (fe_var 1) fa_nil)) fa_nil))) fa_nil)))
      (fss_cons (fs_set (i := 2) sc_law.nd rfl (by first | exact Or.inl rfl | exact Or.inr rfl) (fe_catN (fe_var 2) (fe_lst (fa_cons (fe_tup (fa_cons fe_int (fa_cons (fe_tup (fa_cons (fe_tup (fa_cons fe_int (fa_cons fe_int (fa_cons fe_int (fa_cons fe_int fa_nil))))) fa_nil)) fa_nil))) (fa_cons (fe_tup (fa_cons fe_int (fa_cons (fe_tup (fa_cons (fe_tup (fa_cons fe_int (fa_cons fe_int (fa_cons fe_int (fa_cons fe_int fa_nil))))) fa_nil)) fa_nil))) (fa_cons (fe_tup (fa_cons fe_int (fa_cons (fe_tup (fa_cons (fe_tup (fa_cons fe_int (fa_cons fe_int (fa_cons fe_int (fa_cons fe_int fa_nil))))) fa_nil)) fa_nil))) (fa_cons (fe_tup (fa_cons fe_int (fa_cons (fe_tup (fa_cons (fe_tup (fa_cons fe_int (fa_cons fe_int (fa_cons fe_int (fa_cons fe_int fa_nil))))) fa_nil)) fa_nil))) fa_nil)))))))
      (fss_cons (fs_for hp rfl (fi_seq (fe_op o_add (fe_var 2) (fe_lst (fa_cons (fe_tup (fa_cons fe_int (fa_cons (fe_tup (fa_cons (fe_tup (fa_cons fe_int (fa_cons fe_int (fa_cons fe_int (fa_cons fe_int fa_nil))))) fa_nil)) fa_nil))) (fa_cons (fe_tup (fa_cons fe_int (fa_cons (fe_lst (fa_cons (fe_var 1) fa_nil)) fa_nil))) (fa_cons (fe_tup (fa_cons fe_bl (fa_cons (fe_tup fa_nil) fa_nil))) (fa_cons (fe_tup (fa_cons fe_int (fa_cons (fe_tup (fa_cons (fe_tup (fa_cons fe_int (fa_cons fe_bl (fa_cons fe_int (fa_cons fe_int fa_nil))))) fa_nil)) fa_nil))) (fa_cons (fe_tup (fa_cons fe_int (fa_cons (fe_tup (fa_cons (fe_tup (fa_cons fe_int (fa_cons fe_int (fa_cons fe_int fa_nil)))) fa_nil)) fa_nil))) fa_nil)))))))) (fg_nm sc_law.nd rfl (by first | exact Or.inl rfl | exact Or.inr rfl)) (fss_one (fs_if (ft_cmp (o_ne hr.units) (fe_callB (c_reprX hgd hr.u65) (by rfl) T.n_repr (by decide +kernel) (fa_cons (fe_call G_is_net hT hgd (hr.mono (by decide : 3 ≤ 8)) tk (by rfl) mg_is_net kp_is_net b_is_net (fa_cons (fe_var 3) fa_nil)) fa_nil)) (fe_callB (c_reprX hgd hr.u65) (by rfl) T.n_repr (by decide +kernel) (fa_cons (fe_call G__law_is_net hT hgd (hr.mono (by decide : 2 ≤ 8)) tk (by rfl) mg__law_is_net kp__law_is_net b__law_is_net (fa_cons (fe_var 3) fa_nil)) fa_nil)) (nomark _)) (fss_one (fs_ret fe_bl)) fss_nil)))
      (fss_cons (fs_for hp rfl (fi_rng1 (by rfl) T.n_range (fa_cons (fe_callB (c_max2 rfl) (by rfl) T.n_max (by decide +kernel) (fa_cons fe_int (fa_cons (fe_callB (c_min2 rfl) (by rfl) T.n_min (by decide +kernel) (fa_cons (fe_callB c_len (by rfl) T.n_len (by decide +kernel) (fa_cons (fe_var 0) fa_nil)) (fa_cons fe_int fa_nil))) fa_nil))) fa_nil)) (fg_nm sc_law.nd rfl (by first | exact Or.inl rfl | exact Or.inr rfl)) (fss_cons (fs_set (i := 5) sc_law.nd rfl (by first | exact Or.inl rfl | exact Or.inr rfl) (fe_callN G__law_state hT hgd (hr.mono (by decide : 2 ≤ 8)) tk (by rfl) mg__law_state kp__law_state b__law_state (fa_cons (fe_var 0) (fa_cons (fe_var 4) fa_nil))))
      (fss_cons (fs_set (i := 6) sc_law.nd rfl (by first | exact Or.inl rfl | exact Or.inr rfl) (fe_call G__law_net hT hgd (hr.mono (by decide : 2 ≤ 8)) tk (by rfl) mg__law_net kp__law_net b__law_net (fa_cons (fe_var 5) (fa_cons fe_int (fa_cons fe_int fa_nil)))))
      (fss_cons (fs_set (i := 7) sc_law.nd rfl (by first | exact Or.inl rfl | exact Or.inr rfl) (fe_new (fa_cons (fe_var 6) (fa_cons (fe_callTy c_list (by rfl) T.n_list (by decide +kernel) (fa_cons (fe_var 6) fa_nil)) (fa_cons (fe_rev (fe_var 6)) (fa_cons (fe_op o_add (fe_var 6) (fe_tup (fa_cons (fe_tup fa_nil) fa_nil))) (fa_cons (fe_ix i_ix (fe_var 6) fe_int (fun _ _ => rfl)) (fa_cons (fe_call G__law_odd hT hgd (hr.mono (by decide : 2 ≤ 8)) tk (by rfl) mg__law_odd kp__law_odd b__law_odd (fa_cons (fe_var 5) fa_nil)) (fa_cons (fe_tup (fa_cons (fe_ix i_ix (fe_var 6) fe_int (fun _ _ => rfl)) (fa_cons (fe_op o_mulE (fe_ix i_ix (fe_var 6) fe_int (fun _ _ => rfl)) fe_int) fa_nil))) fa_nil)))))))))
      (fss_cons (fs_for hp rfl (fi_rng1 (by rfl) T.n_range (fa_cons fe_int fa_nil)) (fg_nm sc_law.nd rfl (by first | exact Or.inl rfl | exact Or.inr rfl)) (fss_one (fs_exp (fe_mt PySem.F.slot_list_append PySem.F.type_list_append m_append (fe_var 7) (fa_cons (fe_call G__law_spoilt hT hgd (hr.mono (by decide : 4 ≤ 8)) tk (by rfl) mg__law_spoilt kp__law_spoilt b__law_spoilt (fa_cons (fe_var 5) (fa_cons (fe_var 6) (fa_cons fe_int fa_nil)))) fa_nil)))))
      (fss_one (fs_frz (by rw [hW]; decide) (fs_for hp rfl (fi_seq (fe_var 7)) (fg_nm sc_law.nd rfl (by first | exact Or.inl rfl | exact Or.inr rfl)) (fss_cons (fs_par (i := 9) (j := 10) rfl sc_law.nd rfl rfl (by decide) rfl rfl (fa_cons (fe_callB (c_reprX hgd hr.u65) (by rfl) T.n_repr (by decide +kernel) (fa_cons (fe_var 3) fa_nil)) (fa_cons (fe_call G__law_is_net hT hgd (hr.mono (by decide : 2 ≤ 8)) tk (by rfl) mg__law_is_net kp__law_is_net b__law_is_net (fa_cons (fe_var 3) fa_nil)) fa_nil)) (by rfl))
      (fss_one (fs_if (ft_w (fw_or (ft_cmp (o_ne hr.units) (fe_callB (c_reprX hgd hr.u65) (by rfl) T.n_repr (by decide +kernel) (fa_cons (fe_call G_is_net hT hgd (hr.mono (by decide : 3 ≤ 8)) tk (by rfl) mg_is_net kp_is_net b_is_net (fa_cons (fe_var 3) fa_nil)) fa_nil)) (fe_callB (c_reprX hgd hr.u65) (by rfl) T.n_repr (by decide +kernel) (fa_cons (fe_var 10) fa_nil)) (nomark _)) (fw_or (ft_w (fw_and (ft_not (ft_val (fe_var 10))) (fw_and1 (ft_not (ft_val (fe_call G__law_refused hT hgd (hr.mono (by decide : 8 ≤ 8)) tk (by rfl) mg__law_refused kp__law_refused b__law_refused (fa_cons (fe_var 3) fa_nil))))))) (fw_or1 (ft_cmp (o_ne hr.units) (fe_callB (c_reprX hgd hr.u65) (by rfl) T.n_repr (by decide +kernel) (fa_cons (fe_var 3) fa_nil)) (fe_var 9) (nomark _)))))) (fss_one (fs_ret fe_bl)) fss_nil)))))))))))
      (fss_one (fs_ret fe_bl))))))))
end
end FL
namespace FL
open PySem PySem.Spec PyProof.Rows L2
def lams_ : List Str := ["_law_refused"]
theorem all_mk {P : Program} {w : World} {K : PySem.W.Frag} {h : Heap} {mg mb : Str → Option Value} {fa : Addr} {q : Program} {loose : List Str} {mean : ExcName → Option Value} (X0 : K.In h) (GT : PyProof.Rows.Top q loose mean mg mb h) (hfa : mg "law" = some (.ref fa))
    {f0 : Addr} {od0 an0 : Option Addr} {sl0 : Array (Option Value)} {oc0 kV0 dc0 pm0 cd0 ct0 : Value}
    {f1 : Addr} {od1 an1 : Option Addr} {sl1 : Array (Option Value)} {oc1 kV1 dc1 pm1 cd1 ct1 : Value}
    {f2 : Addr} {od2 an2 : Option Addr} {sl2 : Array (Option Value)} {oc2 kV2 dc2 pm2 cd2 ct2 : Value}
    {f3 : Addr} {od3 an3 : Option Addr} {sl3 : Array (Option Value)} {oc3 kV3 dc3 pm3 cd3 ct3 : Value}
    {f4 : Addr} {od4 an4 : Option Addr} {sl4 : Array (Option Value)} {oc4 kV4 dc4 pm4 cd4 ct4 : Value}
    {f5 : Addr} {od5 an5 : Option Addr} {sl5 : Array (Option Value)} {oc5 kV5 dc5 pm5 cd5 ct5 : Value}
    {f6 : Addr} {od6 an6 : Option Addr} {sl6 : Array (Option Value)} {oc6 kV6 dc6 pm6 cd6 ct6 : Value}
    {f7 : Addr} {od7 an7 : Option Addr} {sl7 : Array (Option Value)} {oc7 kV7 dc7 pm7 cd7 ct7 : Value}
    {f8 : Addr} {od8 an8 : Option Addr} {sl8 : Array (Option Value)} {oc8 kV8 dc8 pm8 cd8 ct8 : Value}
    {f9 : Addr} {od9 an9 : Option Addr} {sl9 : Array (Option Value)} {oc9 kV9 dc9 pm9 cd9 ct9 : Value}
    {f10 : Addr} {od10 an10 : Option Addr} {sl10 : Array (Option Value)} {oc10 kV10 dc10 pm10 cd10 ct10 : Value}
    {f11 : Addr} {od11 an11 : Option Addr} {sl11 : Array (Option Value)} {oc11 kV11 dc11 pm11 cd11 ct11 : Value}
    {f12 : Addr} {od12 an12 : Option Addr} {sl12 : Array (Option Value)} {oc12 kV12 dc12 pm12 cd12 ct12 : Value}
    {f13 : Addr} {od13 an13 : Option Addr} {sl13 : Array (Option Value)} {oc13 kV13 dc13 pm13 cd13 ct13 : Value}
    {f14 : Addr} {od14 an14 : Option Addr} {sl14 : Array (Option Value)} {oc14 kV14 dc14 pm14 cd14 ct14 : Value}
    {f15 : Addr} {od15 an15 : Option Addr} {sl15 : Array (Option Value)} {oc15 kV15 dc15 pm15 cd15 ct15 : Value}
    {f16 : Addr} {od16 an16 : Option Addr} {sl16 : Array (Option Value)} {oc16 kV16 dc16 pm16 cd16 ct16 : Value}
    {f17 : Addr} {od17 an17 : Option Addr} {sl17 : Array (Option Value)} {oc17 kV17 dc17 pm17 cd17 ct17 : Value}
    {f18 : Addr} {od18 an18 : Option Addr} {sl18 : Array (Option Value)} {oc18 kV18 dc18 pm18 cd18 ct18 : Value}
    {f19 : Addr} {od19 an19 : Option Addr} {sl19 : Array (Option Value)} {oc19 kV19 dc19 pm19 cd19 ct19 : Value}
    {f20 : Addr} {od20 an20 : Option Addr} {sl20 : Array (Option Value)} {oc20 kV20 dc20 pm20 cd20 ct20 : Value}
    {f21 : Addr} {od21 an21 : Option Addr} {sl21 : Array (Option Value)} {oc21 kV21 dc21 pm21 cd21 ct21 : Value}
    {f22 : Addr} {od22 an22 : Option Addr} {sl22 : Array (Option Value)} {oc22 kV22 dc22 pm22 cd22 ct22 : Value}
    {f23 : Addr} {od23 an23 : Option Addr} {sl23 : Array (Option Value)} {oc23 kV23 dc23 pm23 cd23 ct23 : Value}
    {f24 : Addr} {od24 an24 : Option Addr} {sl24 : Array (Option Value)} {oc24 kV24 dc24 pm24 cd24 ct24 : Value}
    {f25 : Addr} {od25 an25 : Option Addr} {sl25 : Array (Option Value)} {oc25 kV25 dc25 pm25 cd25 ct25 : Value}
    {f26 : Addr} {od26 an26 : Option Addr} {sl26 : Array (Option Value)} {oc26 kV26 dc26 pm26 cd26 ct26 : Value}
    {f27 : Addr} {od27 an27 : Option Addr} {sl27 : Array (Option Value)} {oc27 kV27 dc27 pm27 cd27 ct27 : Value}
    {f28 : Addr} {od28 an28 : Option Addr} {sl28 : Array (Option Value)} {oc28 kV28 dc28 pm28 cd28 ct28 : Value}
    {f29 : Addr} {od29 an29 : Option Addr} {sl29 : Array (Option Value)} {oc29 kV29 dc29 pm29 cd29 ct29 : Value}
    {f30 : Addr} {od30 an30 : Option Addr} {sl30 : Array (Option Value)} {oc30 kV30 dc30 pm30 cd30 ct30 : Value}
    {f31 : Addr} {od31 an31 : Option Addr} {sl31 : Array (Option Value)} {oc31 kV31 dc31 pm31 cd31 ct31 : Value}
    {f32 : Addr} {od32 an32 : Option Addr} {sl32 : Array (Option Value)} {oc32 kV32 dc32 pm32 cd32 ct32 : Value}
    {f33 : Addr} {od33 an33 : Option Addr} {sl33 : Array (Option Value)} {oc33 kV33 dc33 pm33 cd33 ct33 : Value}
    {f34 : Addr} {od34 an34 : Option Addr} {sl34 : Array (Option Value)} {oc34 kV34 dc34 pm34 cd34 ct34 : Value}
    {f35 : Addr} {od35 an35 : Option Addr} {sl35 : Array (Option Value)} {oc35 kV35 dc35 pm35 cd35 ct35 : Value}
    {f36 : Addr} {od36 an36 : Option Addr} {sl36 : Array (Option Value)} {oc36 kV36 dc36 pm36 cd36 ct36 : Value}
    {f37 : Addr} {od37 an37 : Option Addr} {sl37 : Array (Option Value)} {oc37 kV37 dc37 pm37 cd37 ct37 : Value}
    {f38 : Addr} {od38 an38 : Option Addr} {sl38 : Array (Option Value)} {oc38 kV38 dc38 pm38 cd38 ct38 : Value}
    (a0 : PySem.W.nsIn K mainGlobals "is_among" = some (some (.ref f0))) (l0 : K.lookup f0 = some ⟨oc0, od0, .func (PySem.W.fnOf "is_among" "is_among" (defArgs s_is_among) (defBody s_is_among) (defScope s_is_among) .none kV0 dc0 pm0 an0 cd0 ct0), sl0⟩) (c0 : PySem.W.codeIn K cd0 "is_among" = true) (k0 : PySem.W.keepIn K (.ref f0) = true)
    (a1 : PySem.W.nsIn K mainGlobals "is_whole" = some (some (.ref f1))) (l1 : K.lookup f1 = some ⟨oc1, od1, .func (PySem.W.fnOf "is_whole" "is_whole" (defArgs s_is_whole) (defBody s_is_whole) (defScope s_is_whole) .none kV1 dc1 pm1 an1 cd1 ct1), sl1⟩) (c1 : PySem.W.codeIn K cd1 "is_whole" = true) (k1 : PySem.W.keepIn K (.ref f1) = true)
    (a2 : PySem.W.nsIn K mainGlobals "are_rising" = some (some (.ref f2))) (l2 : K.lookup f2 = some ⟨oc2, od2, .func (PySem.W.fnOf "are_rising" "are_rising" (defArgs s_are_rising) (defBody s_are_rising) (defScope s_are_rising) .none kV2 dc2 pm2 an2 cd2 ct2), sl2⟩) (c2 : PySem.W.codeIn K cd2 "are_rising" = true) (k2 : PySem.W.keepIn K (.ref f2) = true)
    (a3 : PySem.W.nsIn K mainGlobals "are_unlike" = some (some (.ref f3))) (l3 : K.lookup f3 = some ⟨oc3, od3, .func (PySem.W.fnOf "are_unlike" "are_unlike" (defArgs s_are_unlike) (defBody s_are_unlike) (defScope s_are_unlike) .none kV3 dc3 pm3 an3 cd3 ct3), sl3⟩) (c3 : PySem.W.codeIn K cd3 "are_unlike" = true) (k3 : PySem.W.keepIn K (.ref f3) = true)
    (a4 : PySem.W.nsIn K mainGlobals "is_road" = some (some (.ref f4))) (l4 : K.lookup f4 = some ⟨oc4, od4, .func (PySem.W.fnOf "is_road" "is_road" (defArgs s_is_road) (defBody s_is_road) (defScope s_is_road) .none kV4 dc4 pm4 an4 cd4 ct4), sl4⟩) (c4 : PySem.W.codeIn K cd4 "is_road" = true) (k4 : PySem.W.keepIn K (.ref f4) = true)
    (a5 : PySem.W.nsIn K mainGlobals "is_net" = some (some (.ref f5))) (l5 : K.lookup f5 = some ⟨oc5, od5, .func (PySem.W.fnOf "is_net" "is_net" (defArgs s_is_net) (defBody s_is_net) (defScope s_is_net) .none kV5 dc5 pm5 an5 cd5 ct5), sl5⟩) (c5 : PySem.W.codeIn K cd5 "is_net" = true) (k5 : PySem.W.keepIn K (.ref f5) = true)
    (a6 : PySem.W.nsIn K mainGlobals "need_net" = some (some (.ref f6))) (l6 : K.lookup f6 = some ⟨oc6, od6, .func (PySem.W.fnOf "need_net" "need_net" (defArgs s_need_net) (defBody s_need_net) (defScope s_need_net) .none kV6 dc6 pm6 an6 cd6 ct6), sl6⟩) (c6 : PySem.W.codeIn K cd6 "need_net" = true) (k6 : PySem.W.keepIn K (.ref f6) = true)
    (a7 : PySem.W.nsIn K mainGlobals "is_place" = some (some (.ref f7))) (l7 : K.lookup f7 = some ⟨oc7, od7, .func (PySem.W.fnOf "is_place" "is_place" (defArgs s_is_place) (defBody s_is_place) (defScope s_is_place) .none kV7 dc7 pm7 an7 cd7 ct7), sl7⟩) (c7 : PySem.W.codeIn K cd7 "is_place" = true) (k7 : PySem.W.keepIn K (.ref f7) = true)
    (a8 : PySem.W.nsIn K mainGlobals "need_place" = some (some (.ref f8))) (l8 : K.lookup f8 = some ⟨oc8, od8, .func (PySem.W.fnOf "need_place" "need_place" (defArgs s_need_place) (defBody s_need_place) (defScope s_need_place) .none kV8 dc8 pm8 an8 cd8 ct8), sl8⟩) (c8 : PySem.W.codeIn K cd8 "need_place" = true) (k8 : PySem.W.keepIn K (.ref f8) = true)
    (a9 : PySem.W.nsIn K mainGlobals "is_number_of_road" = some (some (.ref f9))) (l9 : K.lookup f9 = some ⟨oc9, od9, .func (PySem.W.fnOf "is_number_of_road" "is_number_of_road" (defArgs s_is_number_of_road) (defBody s_is_number_of_road) (defScope s_is_number_of_road) .none kV9 dc9 pm9 an9 cd9 ct9), sl9⟩) (c9 : PySem.W.codeIn K cd9 "is_number_of_road" = true) (k9 : PySem.W.keepIn K (.ref f9) = true)
    (a10 : PySem.W.nsIn K mainGlobals "places_on" = some (some (.ref f10))) (l10 : K.lookup f10 = some ⟨oc10, od10, .func (PySem.W.fnOf "places_on" "places_on" (defArgs s_places_on) (defBody s_places_on) (defScope s_places_on) .none kV10 dc10 pm10 an10 cd10 ct10), sl10⟩) (c10 : PySem.W.codeIn K cd10 "places_on" = true) (k10 : PySem.W.keepIn K (.ref f10) = true)
    (a11 : PySem.W.nsIn K mainGlobals "cost_by" = some (some (.ref f11))) (l11 : K.lookup f11 = some ⟨oc11, od11, .func (PySem.W.fnOf "cost_by" "cost_by" (defArgs s_cost_by) (defBody s_cost_by) (defScope s_cost_by) .none kV11 dc11 pm11 an11 cd11 ct11), sl11⟩) (c11 : PySem.W.codeIn K cd11 "cost_by" = true) (k11 : PySem.W.keepIn K (.ref f11) = true)
    (a12 : PySem.W.nsIn K mainGlobals "time_by" = some (some (.ref f12))) (l12 : K.lookup f12 = some ⟨oc12, od12, .func (PySem.W.fnOf "time_by" "time_by" (defArgs s_time_by) (defBody s_time_by) (defScope s_time_by) .none kV12 dc12 pm12 an12 cd12 ct12), sl12⟩) (c12 : PySem.W.codeIn K cd12 "time_by" = true) (k12 : PySem.W.keepIn K (.ref f12) = true)
    (a13 : PySem.W.nsIn K mainGlobals "way_in" = some (some (.ref f13))) (l13 : K.lookup f13 = some ⟨oc13, od13, .func (PySem.W.fnOf "way_in" "way_in" (defArgs s_way_in) (defBody s_way_in) (defScope s_way_in) .none kV13 dc13 pm13 an13 cd13 ct13), sl13⟩) (c13 : PySem.W.codeIn K cd13 "way_in" = true) (k13 : PySem.W.keepIn K (.ref f13) = true)
    (a14 : PySem.W.nsIn K mainGlobals "way_of" = some (some (.ref f14))) (l14 : K.lookup f14 = some ⟨oc14, od14, .func (PySem.W.fnOf "way_of" "way_of" (defArgs s_way_of) (defBody s_way_of) (defScope s_way_of) .none kV14 dc14 pm14 an14 cd14 ct14), sl14⟩) (c14 : PySem.W.codeIn K cd14 "way_of" = true) (k14 : PySem.W.keepIn K (.ref f14) = true)
    (a15 : PySem.W.nsIn K mainGlobals "simple_in" = some (some (.ref f15))) (l15 : K.lookup f15 = some ⟨oc15, od15, .func (PySem.W.fnOf "simple_in" "simple_in" (defArgs s_simple_in) (defBody s_simple_in) (defScope s_simple_in) .none kV15 dc15 pm15 an15 cd15 ct15), sl15⟩) (c15 : PySem.W.codeIn K cd15 "simple_in" = true) (k15 : PySem.W.keepIn K (.ref f15) = true)
    (a16 : PySem.W.nsIn K mainGlobals "is_simple" = some (some (.ref f16))) (l16 : K.lookup f16 = some ⟨oc16, od16, .func (PySem.W.fnOf "is_simple" "is_simple" (defArgs s_is_simple) (defBody s_is_simple) (defScope s_is_simple) .none kV16 dc16 pm16 an16 cd16 ct16), sl16⟩) (c16 : PySem.W.codeIn K cd16 "is_simple" = true) (k16 : PySem.W.keepIn K (.ref f16) = true)
    (a17 : PySem.W.nsIn K mainGlobals "need_shut" = some (some (.ref f17))) (l17 : K.lookup f17 = some ⟨oc17, od17, .func (PySem.W.fnOf "need_shut" "need_shut" (defArgs s_need_shut) (defBody s_need_shut) (defScope s_need_shut) .none kV17 dc17 pm17 an17 cd17 ct17), sl17⟩) (c17 : PySem.W.codeIn K cd17 "need_shut" = true) (k17 : PySem.W.keepIn K (.ref f17) = true)
    (a18 : PySem.W.nsIn K mainGlobals "open_roads" = some (some (.ref f18))) (l18 : K.lookup f18 = some ⟨oc18, od18, .func (PySem.W.fnOf "open_roads" "open_roads" (defArgs s_open_roads) (defBody s_open_roads) (defScope s_open_roads) .none kV18 dc18 pm18 an18 cd18 ct18), sl18⟩) (c18 : PySem.W.codeIn K cd18 "open_roads" = true) (k18 : PySem.W.keepIn K (.ref f18) = true)
    (a19 : PySem.W.nsIn K mainGlobals "prices_by" = some (some (.ref f19))) (l19 : K.lookup f19 = some ⟨oc19, od19, .func (PySem.W.fnOf "prices_by" "prices_by" (defArgs s_prices_by) (defBody s_prices_by) (defScope s_prices_by) .none kV19 dc19 pm19 an19 cd19 ct19), sl19⟩) (c19 : PySem.W.codeIn K cd19 "prices_by" = true) (k19 : PySem.W.keepIn K (.ref f19) = true)
    (a20 : PySem.W.nsIn K mainGlobals "prices_of" = some (some (.ref f20))) (l20 : K.lookup f20 = some ⟨oc20, od20, .func (PySem.W.fnOf "prices_of" "prices_of" (defArgs s_prices_of) (defBody s_prices_of) (defScope s_prices_of) .none kV20 dc20 pm20 an20 cd20 ct20), sl20⟩) (c20 : PySem.W.codeIn K cd20 "prices_of" = true) (k20 : PySem.W.keepIn K (.ref f20) = true)
    (a21 : PySem.W.nsIn K mainGlobals "does_hold" = some (some (.ref f21))) (l21 : K.lookup f21 = some ⟨oc21, od21, .func (PySem.W.fnOf "does_hold" "does_hold" (defArgs s_does_hold) (defBody s_does_hold) (defScope s_does_hold) .none kV21 dc21 pm21 an21 cd21 ct21), sl21⟩) (c21 : PySem.W.codeIn K cd21 "does_hold" = true) (k21 : PySem.W.keepIn K (.ref f21) = true)
    (a22 : PySem.W.nsIn K mainGlobals "prices_hold" = some (some (.ref f22))) (l22 : K.lookup f22 = some ⟨oc22, od22, .func (PySem.W.fnOf "prices_hold" "prices_hold" (defArgs s_prices_hold) (defBody s_prices_hold) (defScope s_prices_hold) .none kV22 dc22 pm22 an22 cd22 ct22), sl22⟩) (c22 : PySem.W.codeIn K cd22 "prices_hold" = true) (k22 : PySem.W.keepIn K (.ref f22) = true)
    (a23 : PySem.W.nsIn K mainGlobals "are_prices" = some (some (.ref f23))) (l23 : K.lookup f23 = some ⟨oc23, od23, .func (PySem.W.fnOf "are_prices" "are_prices" (defArgs s_are_prices) (defBody s_are_prices) (defScope s_are_prices) .none kV23 dc23 pm23 an23 cd23 ct23), sl23⟩) (c23 : PySem.W.codeIn K cd23 "are_prices" = true) (k23 : PySem.W.keepIn K (.ref f23) = true)
    (a24 : PySem.W.nsIn K mainGlobals "_law_cell_at" = some (some (.ref f24))) (l24 : K.lookup f24 = some ⟨oc24, od24, .func (PySem.W.fnOf "_law_cell_at" "_law_cell_at" (defArgs s__law_cell_at) (defBody s__law_cell_at) (defScope s__law_cell_at) .none kV24 dc24 pm24 an24 cd24 ct24), sl24⟩) (c24 : PySem.W.codeIn K cd24 "_law_cell_at" = true) (k24 : PySem.W.keepIn K (.ref f24) = true)
    (a25 : PySem.W.nsIn K mainGlobals "_law_state" = some (some (.ref f25))) (l25 : K.lookup f25 = some ⟨oc25, od25, .func (PySem.W.fnOf "_law_state" "_law_state" (defArgs s__law_state) (defBody s__law_state) (defScope s__law_state) .none kV25 dc25 pm25 an25 cd25 ct25), sl25⟩) (c25 : PySem.W.codeIn K cd25 "_law_state" = true) (k25 : PySem.W.keepIn K (.ref f25) = true)
    (a26 : PySem.W.nsIn K mainGlobals "_law_take" = some (some (.ref f26))) (l26 : K.lookup f26 = some ⟨oc26, od26, .func (PySem.W.fnOf "_law_take" "_law_take" (defArgs s__law_take) (defBody s__law_take) (defScope s__law_take) .none kV26 dc26 pm26 an26 cd26 ct26), sl26⟩) (c26 : PySem.W.codeIn K cd26 "_law_take" = true) (k26 : PySem.W.keepIn K (.ref f26) = true)
    (a27 : PySem.W.nsIn K mainGlobals "_law_marks" = some (some (.ref f27))) (l27 : K.lookup f27 = some ⟨oc27, od27, .func (PySem.W.fnOf "_law_marks" "_law_marks" (defArgs s__law_marks) (defBody s__law_marks) (defScope s__law_marks) .none kV27 dc27 pm27 an27 cd27 ct27), sl27⟩) (c27 : PySem.W.codeIn K cd27 "_law_marks" = true) (k27 : PySem.W.keepIn K (.ref f27) = true)
    (a28 : PySem.W.nsIn K mainGlobals "_law_word" = some (some (.ref f28))) (l28 : K.lookup f28 = some ⟨oc28, od28, .func (PySem.W.fnOf "_law_word" "_law_word" (defArgs s__law_word) (defBody s__law_word) (defScope s__law_word) .none kV28 dc28 pm28 an28 cd28 ct28), sl28⟩) (c28 : PySem.W.codeIn K cd28 "_law_word" = true) (k28 : PySem.W.keepIn K (.ref f28) = true)
    (a29 : PySem.W.nsIn K mainGlobals "_law_said" = some (some (.ref f29))) (l29 : K.lookup f29 = some ⟨oc29, od29, .func (PySem.W.fnOf "_law_said" "_law_said" (defArgs s__law_said) (defBody s__law_said) (defScope s__law_said) .none kV29 dc29 pm29 an29 cd29 ct29), sl29⟩) (c29 : PySem.W.codeIn K cd29 "_law_said" = true) (k29 : PySem.W.keepIn K (.ref f29) = true)
    (a30 : PySem.W.nsIn K mainGlobals "_law_number" = some (some (.ref f30))) (l30 : K.lookup f30 = some ⟨oc30, od30, .func (PySem.W.fnOf "_law_number" "_law_number" (defArgs s__law_number) (defBody s__law_number) (defScope s__law_number) .none kV30 dc30 pm30 an30 cd30 ct30), sl30⟩) (c30 : PySem.W.codeIn K cd30 "_law_number" = true) (k30 : PySem.W.keepIn K (.ref f30) = true)
    (a31 : PySem.W.nsIn K mainGlobals "_law_net" = some (some (.ref f31))) (l31 : K.lookup f31 = some ⟨oc31, od31, .func (PySem.W.fnOf "_law_net" "_law_net" (defArgs s__law_net) (defBody s__law_net) (defScope s__law_net) .none kV31 dc31 pm31 an31 cd31 ct31), sl31⟩) (c31 : PySem.W.codeIn K cd31 "_law_net" = true) (k31 : PySem.W.keepIn K (.ref f31) = true)
    (a32 : PySem.W.nsIn K mainGlobals "_law_is_net" = some (some (.ref f32))) (l32 : K.lookup f32 = some ⟨oc32, od32, .func (PySem.W.fnOf "_law_is_net" "_law_is_net" (defArgs s__law_is_net) (defBody s__law_is_net) (defScope s__law_is_net) .none kV32 dc32 pm32 an32 cd32 ct32), sl32⟩) (c32 : PySem.W.codeIn K cd32 "_law_is_net" = true) (k32 : PySem.W.keepIn K (.ref f32) = true)
    (a33 : PySem.W.nsIn K mainGlobals "_law_spoilt" = some (some (.ref f33))) (l33 : K.lookup f33 = some ⟨oc33, od33, .func (PySem.W.fnOf "_law_spoilt" "_law_spoilt" (defArgs s__law_spoilt_r0) (defBody s__law_spoilt_r0) (defScope s__law_spoilt_r0) .none kV33 dc33 pm33 an33 cd33 ct33), sl33⟩) (c33 : PySem.W.codeIn K cd33 "_law_spoilt" = true) (k33 : PySem.W.keepIn K (.ref f33) = true)
    (a34 : PySem.W.nsIn K mainGlobals "_law_spoilt" = some (some (.ref f34))) (l34 : K.lookup f34 = some ⟨oc34, od34, .func (PySem.W.fnOf "_law_spoilt" "_law_spoilt" (defArgs s__law_spoilt_r1) (defBody s__law_spoilt_r1) (defScope s__law_spoilt_r1) .none kV34 dc34 pm34 an34 cd34 ct34), sl34⟩) (c34 : PySem.W.codeIn K cd34 "_law_spoilt" = true) (k34 : PySem.W.keepIn K (.ref f34) = true)
    (a35 : PySem.W.nsIn K mainGlobals "_law_spoilt" = some (some (.ref f35))) (l35 : K.lookup f35 = some ⟨oc35, od35, .func (PySem.W.fnOf "_law_spoilt" "_law_spoilt" (defArgs s__law_spoilt) (defBody s__law_spoilt) (defScope s__law_spoilt) .none kV35 dc35 pm35 an35 cd35 ct35), sl35⟩) (c35 : PySem.W.codeIn K cd35 "_law_spoilt" = true) (k35 : PySem.W.keepIn K (.ref f35) = true)
    (a36 : PySem.W.nsIn K mainGlobals "_law_odd" = some (some (.ref f36))) (l36 : K.lookup f36 = some ⟨oc36, od36, .func (PySem.W.fnOf "_law_odd" "_law_odd" (defArgs s__law_odd) (defBody s__law_odd) (defScope s__law_odd) .none kV36 dc36 pm36 an36 cd36 ct36), sl36⟩) (c36 : PySem.W.codeIn K cd36 "_law_odd" = true) (k36 : PySem.W.keepIn K (.ref f36) = true)
    (a37 : PySem.W.nsIn K mainGlobals "_law_refused" = some (some (.ref f37))) (l37 : K.lookup f37 = some ⟨oc37, od37, .func (PySem.W.fnOf "_law_refused" "_law_refused" (defArgs s__law_refused) (defBody s__law_refused) (defScope s__law_refused) .none kV37 dc37 pm37 an37 cd37 ct37), sl37⟩) (c37 : PySem.W.codeIn K cd37 "_law_refused" = true) (k37 : PySem.W.keepIn K (.ref f37) = true)
    (a38 : PySem.W.nsIn K mainGlobals "law" = some (some (.ref f38))) (l38 : K.lookup f38 = some ⟨oc38, od38, .func (PySem.W.fnOf "law" "law" (defArgs s_law) (defBody s_law) (defScope s_law) .none kV38 dc38 pm38 an38 cd38 ct38), sl38⟩) (c38 : PySem.W.codeIn K cd38 "law" = true) (k38 : PySem.W.keepIn K (.ref f38) = true)
    (kd_prices_of_shut : dfB K kV20 "shut" (.tuple []) = true)
    (kd_are_prices_shut : dfB K kV23 "shut" (.tuple []) = true)
    (z_all : PySem.W.nsIn K mainGlobals "all" = some none)
    (z_bool : PySem.W.nsIn K mainGlobals "bool" = some none)
    (z_int : PySem.W.nsIn K mainGlobals "int" = some none)
    (z_isinstance : PySem.W.nsIn K mainGlobals "isinstance" = some none)
    (z_len : PySem.W.nsIn K mainGlobals "len" = some none)
    (z_list : PySem.W.nsIn K mainGlobals "list" = some none)
    (z_max : PySem.W.nsIn K mainGlobals "max" = some none)
    (z_min : PySem.W.nsIn K mainGlobals "min" = some none)
    (z_range : PySem.W.nsIn K mainGlobals "range" = some none)
    (z_repr : PySem.W.nsIn K mainGlobals "repr" = some none)
    (z_set : PySem.W.nsIn K mainGlobals "set" = some none)
    (z_sum : PySem.W.nsIn K mainGlobals "sum" = some none)
    (z_tuple : PySem.W.nsIn K mainGlobals "tuple" = some none)
    (z_zip : PySem.W.nsIn K mainGlobals "zip" = some none)
    (y_MOST_COST : ∃ t, PySem.W.nsIn K mainGlobals "MOST_COST" = some (some (.int 99 t)))
    (y_MOST_PLACES : ∃ t, PySem.W.nsIn K mainGlobals "MOST_PLACES" = some (some (.int 10 t)))
    (y_MOST_ROADS : ∃ t, PySem.W.nsIn K mainGlobals "MOST_ROADS" = some (some (.int 30 t)))
    (y_MOST_TIME : ∃ t, PySem.W.nsIn K mainGlobals "MOST_TIME" = some (some (.int 99 t)))
    (xb_NoNet : clsB K "NoNet" = true)
    (xb_NoPlace : clsB K "NoPlace" = true)
    (xb_NoShut : clsB K "NoShut" = true)
    (xh : R_.all (heldB K ys_ "WayError") = true)
    (tt : tabsB K lams_ = true) (tr : ∀ x ∈ lams_, ∃ e, (recsOf q).find? (fun e => e.name == x) = some e)
    : ∃ (fd : FuncData) (cs : List (Addr × Addr)) (TT : List (Addr × Str)), (∀ (s : Shared) (v : Value), BindsTo s fd ⟨[v], []⟩ [("_law_script", v)]) ∧ TabsAt h K cs ∧ (∀ p ∈ TT, p.1 ∈ cs.map (·.2)) ∧ ∀ base : Heap, K.In base → base.Ns mainGlobals mg → base.NoDigits → (∀ p ∈ cs, LamX.TabB base mg p.1 p.2) → FnG P w K mg base (L2.CX P w) 9 fa fd ["_law_script"] (spOf K mg TT false [false] m_law) := by
  have G := GT.g
  have e := hfa.symm.trans (PySem.W.mg_of X0 G a38)
  cases e
  have T : Tx K mg := {
    n_all := PySem.W.mg_none_of X0 G z_all
    n_bool := PySem.W.mg_none_of X0 G z_bool
    n_int := PySem.W.mg_none_of X0 G z_int
    n_isinstance := PySem.W.mg_none_of X0 G z_isinstance
    n_len := PySem.W.mg_none_of X0 G z_len
    n_list := PySem.W.mg_none_of X0 G z_list
    n_max := PySem.W.mg_none_of X0 G z_max
    n_min := PySem.W.mg_none_of X0 G z_min
    n_range := PySem.W.mg_none_of X0 G z_range
    n_repr := PySem.W.mg_none_of X0 G z_repr
    n_set := PySem.W.mg_none_of X0 G z_set
    n_sum := PySem.W.mg_none_of X0 G z_sum
    n_tuple := PySem.W.mg_none_of X0 G z_tuple
    n_zip := PySem.W.mg_none_of X0 G z_zip
    c_MOST_COST := let ⟨t, e⟩ := y_MOST_COST; ⟨t, PySem.W.mg_of X0 G e⟩
    c_MOST_PLACES := let ⟨t, e⟩ := y_MOST_PLACES; ⟨t, PySem.W.mg_of X0 G e⟩
    c_MOST_ROADS := let ⟨t, e⟩ := y_MOST_ROADS; ⟨t, PySem.W.mg_of X0 G e⟩
    c_MOST_TIME := let ⟨t, e⟩ := y_MOST_TIME; ⟨t, PySem.W.mg_of X0 G e⟩
    x_NoNet := clsB_ok X0 G xb_NoNet
    x_NoPlace := clsB_ok X0 G xb_NoPlace
    x_NoShut := clsB_ok X0 G xb_NoShut }
  obtain ⟨tb1, tb2, tb3, tb4⟩ := tabsB_ok GT X0 tr tt
  refine ⟨PySem.W.fnOf "law" "law" (defArgs s_law) (defBody s_law) (defScope s_law) .none kV38 dc38 pm38 an38 cd38 ct38, tabC K lams_, tabT K lams_, fun s v => .of_eq rfl, tb1, tb2, fun base _ _ _ TB => ?_⟩
  have Lm__law_refused := lamOk_of (base := base) (mg := mg) (x := "_law_refused") (by decide) tb3 tb4 TB a37 l37
  have g_is_among : Q_is_among P w K mg base (tabT K lams_) := ok_is_among T  (fun_mk (st := s_is_among) l0 c0 k0) (PySem.W.mg_of X0 G a0)
  have g_is_whole : Q_is_whole P w K mg base (tabT K lams_) := ok_is_whole T  (fun_mk (st := s_is_whole) l1 c1 k1) (PySem.W.mg_of X0 G a1)
  have g_are_rising : Q_are_rising P w K mg base (tabT K lams_) := ok_are_rising T  (fun_mk (st := s_are_rising) l2 c2 k2) (PySem.W.mg_of X0 G a2)
  have g_are_unlike : Q_are_unlike P w K mg base (tabT K lams_) := ok_are_unlike T  (fun_mk (st := s_are_unlike) l3 c3 k3) (PySem.W.mg_of X0 G a3)
  have g_is_road : Q_is_road P w K mg base (tabT K lams_) := ok_is_road T g_is_among (fun_mk (st := s_is_road) l4 c4 k4) (PySem.W.mg_of X0 G a4)
  have g_is_net : Q_is_net P w K mg base (tabT K lams_) := ok_is_net T g_is_among g_is_road (fun_mk (st := s_is_net) l5 c5 k5) (PySem.W.mg_of X0 G a5)
  have g_need_net : Q_need_net P w K mg base (tabT K lams_) := ok_need_net T g_is_net (fun_mk (st := s_need_net) l6 c6 k6) (PySem.W.mg_of X0 G a6)
  have g_is_place : Q_is_place P w K mg base (tabT K lams_) := ok_is_place T g_is_among (fun_mk (st := s_is_place) l7 c7 k7) (PySem.W.mg_of X0 G a7)
  have g_need_place : Q_need_place P w K mg base (tabT K lams_) := ok_need_place T g_is_place (fun_mk (st := s_need_place) l8 c8 k8) (PySem.W.mg_of X0 G a8)
  have g_is_number_of_road : Q_is_number_of_road P w K mg base (tabT K lams_) := ok_is_number_of_road T g_is_among (fun_mk (st := s_is_number_of_road) l9 c9 k9) (PySem.W.mg_of X0 G a9)
  have g_places_on : Q_places_on P w K mg base (tabT K lams_) := ok_places_on T g_is_number_of_road (fun_mk (st := s_places_on) l10 c10 k10) (PySem.W.mg_of X0 G a10)
  have g_cost_by : Q_cost_by P w K mg base (tabT K lams_) := ok_cost_by T  (fun_mk (st := s_cost_by) l11 c11 k11) (PySem.W.mg_of X0 G a11)
  have g_time_by : Q_time_by P w K mg base (tabT K lams_) := ok_time_by T  (fun_mk (st := s_time_by) l12 c12 k12) (PySem.W.mg_of X0 G a12)
  have g_way_in : Q_way_in P w K mg base (tabT K lams_) := ok_way_in T g_places_on g_cost_by g_time_by (fun_mk (st := s_way_in) l13 c13 k13) (PySem.W.mg_of X0 G a13)
  have g_way_of : Q_way_of P w K mg base (tabT K lams_) := ok_way_of T g_need_net g_need_place g_way_in (fun_mk (st := s_way_of) l14 c14 k14) (PySem.W.mg_of X0 G a14)
  have g_simple_in : Q_simple_in P w K mg base (tabT K lams_) := ok_simple_in T g_are_unlike g_places_on (fun_mk (st := s_simple_in) l15 c15 k15) (PySem.W.mg_of X0 G a15)
  have g_is_simple : Q_is_simple P w K mg base (tabT K lams_) := ok_is_simple T g_need_net g_need_place g_simple_in (fun_mk (st := s_is_simple) l16 c16 k16) (PySem.W.mg_of X0 G a16)
  have g_need_shut : Q_need_shut P w K mg base (tabT K lams_) := ok_need_shut T g_are_rising g_is_place (fun_mk (st := s_need_shut) l17 c17 k17) (PySem.W.mg_of X0 G a17)
  have g_open_roads : Q_open_roads P w K mg base (tabT K lams_) := ok_open_roads T  (fun_mk (st := s_open_roads) l18 c18 k18) (PySem.W.mg_of X0 G a18)
  have g_prices_by : Q_prices_by P w K mg base (tabT K lams_) := ok_prices_by T g_open_roads (fun_mk (st := s_prices_by) l19 c19 k19) (PySem.W.mg_of X0 G a19)
  have kd_prices_of : KwD K (PySem.W.fnOf "prices_of" "prices_of" (defArgs s_prices_of) (defBody s_prices_of) (defScope s_prices_of) .none kV20 dc20 pm20 an20 cd20 ct20) dl_prices_of := by
    obtain ⟨D, e, _⟩ := dfB_ok kd_prices_of_shut
    refine .inr ⟨D, e, fun q m => ?_⟩
    simp only [dl_prices_of, List.mem_cons, List.not_mem_nil, or_false] at m
    rcases m with rfl
    · obtain ⟨D2, e2, r⟩ := dfB_ok kd_prices_of_shut
      rw [e] at e2; cases e2; exact r
  have g_prices_of : Q_prices_of P w K mg base (tabT K lams_) := ok_prices_of T g_need_net g_need_place g_need_shut g_prices_by (fun_mk (st := s_prices_of) l20 c20 k20) kd_prices_of (PySem.W.mg_of X0 G a20)
  have g_does_hold : Q_does_hold P w K mg base (tabT K lams_) := ok_does_hold T  (fun_mk (st := s_does_hold) l21 c21 k21) (PySem.W.mg_of X0 G a21)
  have g_prices_hold : Q_prices_hold P w K mg base (tabT K lams_) := ok_prices_hold T g_is_whole g_open_roads g_does_hold (fun_mk (st := s_prices_hold) l22 c22 k22) (PySem.W.mg_of X0 G a22)
  have kd_are_prices : KwD K (PySem.W.fnOf "are_prices" "are_prices" (defArgs s_are_prices) (defBody s_are_prices) (defScope s_are_prices) .none kV23 dc23 pm23 an23 cd23 ct23) dl_are_prices := by
    obtain ⟨D, e, _⟩ := dfB_ok kd_are_prices_shut
    refine .inr ⟨D, e, fun q m => ?_⟩
    simp only [dl_are_prices, List.mem_cons, List.not_mem_nil, or_false] at m
    rcases m with rfl
    · obtain ⟨D2, e2, r⟩ := dfB_ok kd_are_prices_shut
      rw [e] at e2; cases e2; exact r
  have g_are_prices : Q_are_prices P w K mg base (tabT K lams_) := ok_are_prices T g_need_net g_need_place g_need_shut g_prices_hold (fun_mk (st := s_are_prices) l23 c23 k23) kd_are_prices (PySem.W.mg_of X0 G a23)
  have g__law_cell_at : Q__law_cell_at P w K mg base (tabT K lams_) := ok__law_cell_at T  (fun_mk (st := s__law_cell_at) l24 c24 k24) (PySem.W.mg_of X0 G a24)
  have g__law_state : Q__law_state P w K mg base (tabT K lams_) := ok__law_state T g__law_cell_at (fun_mk (st := s__law_state) l25 c25 k25) (PySem.W.mg_of X0 G a25)
  have g__law_take : Q__law_take P w K mg base (tabT K lams_) := ok__law_take T  (fun_mk (st := s__law_take) l26 c26 k26) (PySem.W.mg_of X0 G a26)
  have g__law_marks : Q__law_marks P w K mg base (tabT K lams_) := ok__law_marks T  (fun_mk (st := s__law_marks) l27 c27 k27) (PySem.W.mg_of X0 G a27)
  have gS : SaidAll P w K mg base (tabT K lams_) 2 s__law_said ys_ R_ m__law_word false := by
    refine ⟨f29, f28, (PySem.W.fnOf "_law_said" "_law_said" (defArgs s__law_said) (defBody s__law_said) (defScope s__law_said) .none kV29 dc29 pm29 an29 cd29 ct29), (PySem.W.fnOf "_law_word" "_law_word" (defArgs s__law_word) (defBody s__law_word) (defScope s__law_word) .none kV28 dc28 pm28 an28 cd28 ct28), "_law_e", fun X hP hw hK hmg hb => ?_⟩
    subst hP hw hK hmg hb
    exact ⟨fun_mk (st := s__law_said) l29 c29 k29, PySem.W.mg_of X0 G a29, own__law_word T g__law_marks (fun_mk (st := s__law_word) l28 c28 k28), PySem.W.mg_of X0 G a28, k28,
      (fun_mk (st := s__law_word) l28 c28 k28).binds (fun _ _ _ _ _ _ us hl => match us, hl with | [_], _ => rfl),
      (fun_mk (st := s__law_said) l29 c29 k29).binds (fun _ _ _ _ _ _ us hl => match us, hl with | [_], _ => rfl),
      sc__law_said, (by first | exact Or.inl rfl | exact Or.inr (Or.inl rfl) | exact Or.inr (Or.inr rfl)), (by rfl), (by rfl), (by rfl),
      ⟨_, _, _, _, _, _, _, _, _, _, _, _, .one, rfl⟩, heldB_ok X0 G rfl xh⟩
  have g__law_number : Q__law_number P w K mg base (tabT K lams_) := ok__law_number T  (fun_mk (st := s__law_number) l30 c30 k30) (PySem.W.mg_of X0 G a30)
  have g__law_net : Q__law_net P w K mg base (tabT K lams_) := ok__law_net T g__law_take (fun_mk (st := s__law_net) l31 c31 k31) (PySem.W.mg_of X0 G a31)
  have g__law_is_net : Q__law_is_net P w K mg base (tabT K lams_) := ok__law_is_net T g__law_number (fun_mk (st := s__law_is_net) l32 c32 k32) (PySem.W.mg_of X0 G a32)
  have g__law_spoilt_r0 : Q__law_spoilt_r0 P w K mg base (tabT K lams_) := ok__law_spoilt_r0 T g__law_take (fun_mk (st := s__law_spoilt_r0) l33 c33 k33) (PySem.W.mg_of X0 G a33)
  have g__law_spoilt_r1 : Q__law_spoilt_r1 P w K mg base (tabT K lams_) := ok__law_spoilt_r1 T g__law_take g__law_spoilt_r0 (fun_mk (st := s__law_spoilt_r1) l34 c34 k34) (PySem.W.mg_of X0 G a34)
  have g__law_spoilt : Q__law_spoilt P w K mg base (tabT K lams_) := ok__law_spoilt T g__law_take g__law_spoilt_r1 (fun_mk (st := s__law_spoilt) l35 c35 k35) (PySem.W.mg_of X0 G a35)
  have g__law_odd : Q__law_odd P w K mg base (tabT K lams_) := ok__law_odd T g__law_take (fun_mk (st := s__law_odd) l36 c36 k36) (PySem.W.mg_of X0 G a36)
  have g__law_refused : Q__law_refused P w K mg base (tabT K lams_) := ok__law_refused T g_way_of g_is_simple g_prices_of g_are_prices gS Lm__law_refused (fun_mk (st := s__law_refused) l37 c37 k37) (PySem.W.mg_of X0 G a37)
  exact own_law T g_is_net g__law_state g__law_net g__law_is_net g__law_spoilt g__law_odd g__law_refused (fun_mk (st := s_law) l38 c38 k38)
end FL
open PySem PySem.W PyProof.Rows
set_option maxHeartbeats 0 in
theorem PySem.Challenge.cw_waysranked_k01_nets_known_holds : PySem.Challenge.rw_waysranked_k01_nets_known.Holds := by
  w_on; o_law; k_head; (case hw => w_witness2)
  k_fill
  refine FL.walkG (l := PySem.Challenge.rw_waysranked_k01_nets_known) (n := 63) (k := 9) (x := "_law_script") (fr := false) (m := FL.m_law) rfl (by decide) rfl ⟨rfl, by decide, by decide⟩ (fun w h Y => by first | exact PySem.W.kIn_of Y | exact PySem.W.km_in_of Y) ?F FL.law_true
  case F =>
    intro w mg mb mean fa h Y KX G hmg
    refine' FL.all_mk KX G hmg ?a0 ?l0 ?c0 ?k0 ?a1 ?l1 ?c1 ?k1 ?a2 ?l2 ?c2 ?k2 ?a3 ?l3 ?c3 ?k3 ?a4 ?l4 ?c4 ?k4 ?a5 ?l5 ?c5 ?k5 ?a6 ?l6 ?c6 ?k6 ?a7 ?l7 ?c7 ?k7 ?a8 ?l8 ?c8 ?k8 ?a9 ?l9 ?c9 ?k9 ?a10 ?l10 ?c10 ?k10 ?a11 ?l11 ?c11 ?k11 ?a12 ?l12 ?c12 ?k12 ?a13 ?l13 ?c13 ?k13 ?a14 ?l14 ?c14 ?k14 ?a15 ?l15 ?c15 ?k15 ?a16 ?l16 ?c16 ?k16 ?a17 ?l17 ?c17 ?k17 ?a18 ?l18 ?c18 ?k18 ?a19 ?l19 ?c19 ?k19 ?a20 ?l20 ?c20 ?k20 ?a21 ?l21 ?c21 ?k21 ?a22 ?l22 ?c22 ?k22 ?a23 ?l23 ?c23 ?k23 ?a24 ?l24 ?c24 ?k24 ?a25 ?l25 ?c25 ?k25 ?a26 ?l26 ?c26 ?k26 ?a27 ?l27 ?c27 ?k27 ?a28 ?l28 ?c28 ?k28 ?a29 ?l29 ?c29 ?k29 ?a30 ?l30 ?c30 ?k30 ?a31 ?l31 ?c31 ?k31 ?a32 ?l32 ?c32 ?k32 ?a33 ?l33 ?c33 ?k33 ?a34 ?l34 ?c34 ?k34 ?a35 ?l35 ?c35 ?k35 ?a36 ?l36 ?c36 ?k36 ?a37 ?l37 ?c37 ?k37 ?a38 ?l38 ?c38 ?k38 ?kd_prices_of_shut ?kd_are_prices_shut ?z_all ?z_bool ?z_int ?z_isinstance ?z_len ?z_list ?z_max ?z_min ?z_range ?z_repr ?z_set ?z_sum ?z_tuple ?z_zip ?y_MOST_COST ?y_MOST_PLACES ?y_MOST_ROADS ?y_MOST_TIME ?xb_NoNet ?xb_NoPlace ?xb_NoShut ?xh ?tt ?tr
    (case a0 => k_is)
    (case l0 => k_is)
    (case c0 => k_is)
    (case k0 => k_is)
    (case a1 => k_is)
    (case l1 => k_is)
    (case c1 => k_is)
    (case k1 => k_is)
    (case a2 => k_is)
    (case l2 => k_is)
    (case c2 => k_is)
    (case k2 => k_is)
    (case a3 => k_is)
    (case l3 => k_is)
    (case c3 => k_is)
    (case k3 => k_is)
    (case a4 => k_is)
    (case l4 => k_is)
    (case c4 => k_is)
    (case k4 => k_is)
    (case a5 => k_is)
    (case l5 => k_is)
    (case c5 => k_is)
    (case k5 => k_is)
    (case a6 => k_is)
    (case l6 => k_is)
    (case c6 => k_is)
    (case k6 => k_is)
    (case a7 => k_is)
    (case l7 => k_is)
    (case c7 => k_is)
    (case k7 => k_is)
    (case a8 => k_is)
    (case l8 => k_is)
    (case c8 => k_is)
    (case k8 => k_is)
    (case a9 => k_is)
    (case l9 => k_is)
    (case c9 => k_is)
    (case k9 => k_is)
    (case a10 => k_is)
    (case l10 => k_is)
    (case c10 => k_is)
    (case k10 => k_is)
    (case a11 => k_is)
    (case l11 => k_is)
    (case c11 => k_is)
    (case k11 => k_is)
    (case a12 => k_is)
    (case l12 => k_is)
    (case c12 => k_is)
    (case k12 => k_is)
    (case a13 => k_is)
    (case l13 => k_is)
    (case c13 => k_is)
    (case k13 => k_is)
    (case a14 => k_is)
    (case l14 => k_is)
    (case c14 => k_is)
    (case k14 => k_is)
    (case a15 => k_is)
    (case l15 => k_is)
    (case c15 => k_is)
    (case k15 => k_is)
    (case a16 => k_is)
    (case l16 => k_is)
    (case c16 => k_is)
    (case k16 => k_is)
    (case a17 => k_is)
    (case l17 => k_is)
    (case c17 => k_is)
    (case k17 => k_is)
    (case a18 => k_is)
    (case l18 => k_is)
    (case c18 => k_is)
    (case k18 => k_is)
    (case a19 => k_is)
    (case l19 => k_is)
    (case c19 => k_is)
    (case k19 => k_is)
    (case a20 => k_is)
    (case l20 => k_is)
    (case c20 => k_is)
    (case k20 => k_is)
    (case a21 => k_is)
    (case l21 => k_is)
    (case c21 => k_is)
    (case k21 => k_is)
    (case a22 => k_is)
    (case l22 => k_is)
    (case c22 => k_is)
    (case k22 => k_is)
    (case a23 => k_is)
    (case l23 => k_is)
    (case c23 => k_is)
    (case k23 => k_is)
    (case a24 => k_is)
    (case l24 => k_is)
    (case c24 => k_is)
    (case k24 => k_is)
    (case a25 => k_is)
    (case l25 => k_is)
    (case c25 => k_is)
    (case k25 => k_is)
    (case a26 => k_is)
    (case l26 => k_is)
    (case c26 => k_is)
    (case k26 => k_is)
    (case a27 => k_is)
    (case l27 => k_is)
    (case c27 => k_is)
    (case k27 => k_is)
    (case a28 => k_is)
    (case l28 => k_is)
    (case c28 => k_is)
    (case k28 => k_is)
    (case a29 => k_is)
    (case l29 => k_is)
    (case c29 => k_is)
    (case k29 => k_is)
    (case a30 => k_is)
    (case l30 => k_is)
    (case c30 => k_is)
    (case k30 => k_is)
    (case a31 => k_is)
    (case l31 => k_is)
    (case c31 => k_is)
    (case k31 => k_is)
    (case a32 => k_is)
    (case l32 => k_is)
    (case c32 => k_is)
    (case k32 => k_is)
    (case a33 => k_is)
    (case l33 => k_is)
    (case c33 => k_is)
    (case k33 => k_is)
    (case a34 => k_is)
    (case l34 => k_is)
    (case c34 => k_is)
    (case k34 => k_is)
    (case a35 => k_is)
    (case l35 => k_is)
    (case c35 => k_is)
    (case k35 => k_is)
    (case a36 => k_is)
    (case l36 => k_is)
    (case c36 => k_is)
    (case k36 => k_is)
    (case a37 => k_is)
    (case l37 => k_is)
    (case c37 => k_is)
    (case k37 => k_is)
    (case a38 => k_is)
    (case l38 => k_is)
    (case c38 => k_is)
    (case k38 => k_is)
    (case kd_prices_of_shut => kernel_rfl)
    (case kd_are_prices_shut => kernel_rfl)
    (case z_all => k_is)
    (case z_bool => k_is)
    (case z_int => k_is)
    (case z_isinstance => k_is)
    (case z_len => k_is)
    (case z_list => k_is)
    (case z_max => k_is)
    (case z_min => k_is)
    (case z_range => k_is)
    (case z_repr => k_is)
    (case z_set => k_is)
    (case z_sum => k_is)
    (case z_tuple => k_is)
    (case z_zip => k_is)
    (case y_MOST_COST => exact ⟨_, by k_is⟩)
    (case y_MOST_PLACES => exact ⟨_, by k_is⟩)
    (case y_MOST_ROADS => exact ⟨_, by k_is⟩)
    (case y_MOST_TIME => exact ⟨_, by k_is⟩)
    (case xb_NoNet => kernel_rfl)
    (case xb_NoPlace => kernel_rfl)
    (case xb_NoShut => kernel_rfl)
    (case xh => kernel_rfl)
    (case tt => kernel_rfl)
    (case tr => exact fun x hx => by simp only [FL.lams_, List.mem_cons, List.not_mem_nil, or_false] at hx; rcases hx with rfl <;> exact ⟨_, rfl⟩)
